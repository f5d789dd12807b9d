import PyProof.Rows.All
import Wide.All
import OpenK.AllK
import Wide.FinOn
import HandS.ForMost
import HandS.TupAny
import HandS.Wide
import HandS.IsInst
import HandS.Deep
import HandS.Flow
import HandS.Lambda
import HandS.TupMul
import HandS.TupLe
import HandS.TupLen
import HandS.SortOrd
import HandS.SortInts
import HandS.Walk
import HandS.Zip
import HandS.ForExc
import HandS.EndBits
import HandS.ExcCtx
import HandS.HotCalls
import HandS.Conv
import HandS.SortRule
import KE.KSortTup
import PyProof.Rows.SortShell
import PyProof.Rows.SortShellAny
import HandS.Text
import PyProof.AutoSeq1
import KE.GoesZip
import KE.GoesMore
import KE.GoesEnum
import HandS.ExcIs
import HandS.SetFor
import HandS.Strs
import HandS.Replace
import KE.KRevSl
import HandS.Dict
import HandS.Iter
import KE.KDictWalk
import KE.KEqDict
import KE.KDictSum
import KE.KDictCopyH
import HandS.More
import KE.SortData
import KE.KDictDisplayH
import HandS.SetKeys
import PyProof.WalksMore
import PyProof.SumAny
import KE.KDictZip
import KE.KDictItemsList
import HandS.ListItems
import KE.DataMinMax
import KE.KDictKeyed
import KE.KDictList
import KE.KTupSum
import HandS.Rev
import HandS.TupSets
import KE.KDictPairs
import KE.KIndexOf
import HandS.Codes
import KE.KSortRegSt
import KE.KxWritten
import HandS.EndTab
import KE.SortKeyHeap
import PyProof.Rows.Tup
import PySem.Challenge.RW_switchnets_k75_fewest_poured
set_option Elab.async false
set_option linter.all false
set_option maxRecDepth 100000
namespace Y
open PySem PySem.Spec PyProof.Rows L2
abbrev St := L2.St

/-- data at any depth; lists, dicts by what they hold; arg: the script; ftu: a tuple whose object is known to have no dict of its own; tab: a code object's table, its lambdas' name -/
inductive D where
  | non | bl (b : Bool) | int (i : Int) | str (x : Str) | tup (xs : List D) | lst (xs : List D)
  | arg (ns : List Int) | dik (ks : List Key) (ds : List D) | dit (ks : List (List Key)) (ds : List D) | ftu (xs : List D) | tab (p : Addr) (q : Str)
instance : Inhabited D := ⟨.non⟩
/-- a way of a run: an end, an exception of the program's own, anything else -/
inductive R (α : Type) where
  | ok (a : α) | er (c : Str) (ds : List D) | stk
@[simp] def R.bind {α β : Type} : R α → (α → R β) → R β
  | .ok a, f => f a
  | .er c ds, _ => .er c ds
  | .stk, _ => .stk
instance : Monad R where
  pure := .ok
  bind := R.bind
@[simp] theorem R.bind_ok {α β : Type} (a : α) (f : α → R β) : (R.ok a >>= f) = f a := id rfl
@[simp] theorem R.bind_stk {α β : Type} (f : α → R β) : ((R.stk : R α) >>= f) = .stk := id rfl
@[simp] theorem R.bind_er {α β : Type} (c : Str) (ds : List D) (f : α → R β) : ((R.er c ds : R α) >>= f) = .er c ds := id rfl
@[simp] theorem R.pure_eq {α : Type} (a : α) : (pure a : R α) = .ok a := id rfl
/-- the names' data by slot -/
abbrev Env := List (Option D)
/-- what an expression hands on: new data, data, or the object of an own slot -/
inductive Hd where
  | fr (d : D) | vl (d : D) | ow (i : Nat)
abbrev EM := Env → R (Hd × Env)
def look (i : Nat) (ρ : Env) : R D := match ρ[i]? with
  | some (some d) => .ok d
  | _ => .stk
def Hd.d : Hd → Env → R D
  | .fr d, _ => .ok d
  | .vl d, _ => .ok d
  | .ow i, ρ => look i ρ
def Hd.v : Hd → R D
  | .fr d => .ok d
  | .vl d => .ok d
  | .ow _ => .stk
def D.isMu : D → Bool
  | .lst _ => true
  | .dik _ _ => true
  | .dit _ _ => true
  | .arg _ => true
  | .tab _ _ => true
  | _ => false

abbrev Pr := Addr → Prop
/-- the table at p -/
def TabP (H : Hp) (p : Addr) (q : Str) (a : Addr) : Prop := a = p ∧ LamX.TabS H a q
mutual
/-- v is d, over objects none of which is forbidden (tuples never change: they may be any) -/
def Rep (K : PySem.W.Frag) (H : Hp) : D → Pr → V → Prop
  | .non, _, v => v = .non
  | .bl b, _, v => v = .bl b
  | .int i, _, v => v = .int i
  | .str x, _, v => v = .str x
  | .tup ds, P, v => ∃ a vs, v = .ref a ∧ H a = some (.tup vs) ∧ Reps K H ds P vs
  | .ftu ds, P, v => ∃ a vs o, v = .ref a ∧ H a = some (.frz o (.tup vs)) ∧ o.dict = none ∧ Reps K H ds P vs
  | .tab p q, P, v => ∃ a, v = .ref a ∧ ¬ P a ∧ TabP H p q a
  | .lst ds, P, v => ∃ a vs, v = .ref a ∧ ¬ P a ∧ H a = some (.lst vs) ∧ Reps K H ds (fun b => P b ∨ b = a) vs
  | .arg ns, P, v => ∃ a, v = .ref a ∧ ((¬ P a ∧ Rd H a (.lst (ns.map V.int))) ∨ SqL K (fun _ => none) a (ns.map V.int))
  | .dik ks ds, P, v => ∃ a vs, v = .ref a ∧ ¬ P a ∧ ks.length = vs.length ∧ Rd H a (.dK (ks.zip vs)) ∧ Reps K H ds (fun b => P b ∨ b = a) vs
  | .dit ks ds, P, v => ∃ a vs, v = .ref a ∧ ¬ P a ∧ ks.length = vs.length ∧ Rd H a (.dT (ks.zip vs)) ∧ Reps K H ds (fun b => P b ∨ b = a) vs
def Reps (K : PySem.W.Frag) (H : Hp) : List D → Pr → List V → Prop
  | [], _, vs => vs = []
  | d :: ds, P, vs => ∃ v ws, vs = v :: ws ∧ Rep K H d P v ∧ Reps K H ds P ws
end
/-- the object itself may be forbidden, what it holds not -/
def RepW (K : PySem.W.Frag) (H : Hp) : D → Pr → V → Prop
  | .lst ds, P, v => ∃ a vs, v = .ref a ∧ H a = some (.lst vs) ∧ Reps K H ds P vs
  | .arg ns, P, v => ∃ a, v = .ref a ∧ SqL K H a (ns.map V.int)
  | .dik ks ds, P, v => ∃ a vs, v = .ref a ∧ ks.length = vs.length ∧ Rd H a (.dK (ks.zip vs)) ∧ Reps K H ds P vs
  | .dit ks ds, P, v => ∃ a vs, v = .ref a ∧ ks.length = vs.length ∧ Rd H a (.dT (ks.zip vs)) ∧ Reps K H ds P vs
  | .tab p q, P, v => ∃ a, v = .ref a ∧ TabP H p q a
  | d, P, v => Rep K H d P v
/-- an own slot's object: it may be written -/
def RepO (K : PySem.W.Frag) (H : Hp) : D → Pr → V → Prop
  | .lst ds, P, v => ∃ a vs, v = .ref a ∧ H a = some (.lst vs) ∧ Reps K H ds P vs
  | .dik ks ds, P, v => ∃ a vs, v = .ref a ∧ ks.length = vs.length ∧ H a = some (.dK (ks.zip vs)) ∧ Reps K H ds P vs
  | .dit ks ds, P, v => ∃ a vs, v = .ref a ∧ ks.length = vs.length ∧ H a = some (.dT (ks.zip vs)) ∧ Reps K H ds P vs
  | .non, _, v => v = .non
  | .bl b, _, v => v = .bl b
  | .int i, _, v => v = .int i
  | .str x, _, v => v = .str x
  | .tab p q, _, v => ∃ a, v = .ref a ∧ TabP H p q a
  | _, _, _ => False

/-- an object that may change (or a list, a dict that is locked) -/
def isMut : Option HO → Prop
  | some (.lst _) => True
  | some (.dK _) => True
  | some (.dT _) => True
  | some (.ins _ _ _) => True
  | some (.set _ _) => True
  | some (.frz _ (.lst _)) => True
  | some (.frz _ (.dK _)) => True
  | some (.frz _ (.dT _)) => True
  | some (.tbl _) => True
  | _ => False
theorem isMut.nt {H : Hp} {b : Addr} (h : isMut (H b)) {xs : List V} : ¬ Rd H b (.tup xs) := by
  rintro (e | ⟨o, e⟩) <;> (rw [e] at h; exact h)
theorem isMut.some {o : Option HO} (h : isMut o) : o ≠ none := by rintro rfl; exact h
theorem Rd.keep {H H' : Hp} {a : Addr} {u : HO} (r : Rd H a u) (k : ∀ o, H a = some o → H' a = some o) : Rd H' a u := by
  rcases r with e | ⟨o, e⟩
  · exact .inl (k _ e)
  · exact .inr ⟨o, k _ e⟩
theorem Rd.some {H : Hp} {a : Addr} {u : HO} (r : Rd H a u) : H a ≠ none := by
  rcases r with e | ⟨o, e⟩ <;> (rw [e]; intro z; cases z)

theorem TabP.ext {H H' : Hp} {p a : Addr} {q : Str} (t : TabP H p q a) (e : ∀ b o, H b = some o → H' b = some o) : TabP H' p q a := ⟨t.1, t.2.ext e⟩
theorem TabS.mono {H H' : Hp} {P : Pr} {p a : Addr} {q : Str} (hm : ∀ b, P b → isMut (H b)) (k : ∀ b o, H b = some o → ¬ P b → H' b = some o) (ka : ∀ o, H a = some o → H' a = some o) (t : TabP H p q a) : TabP H' p q a := by
  obtain ⟨e, ps, h1, h2, h3⟩ := t
  refine ⟨e, ps, ka _ h1, h2, fun pos cv hc => ?_⟩
  obtain ⟨c, e1, e2⟩ := h3 pos cv hc
  exact ⟨c, e1, k _ _ e2 fun z => by have := hm c z; rw [e2] at this; exact this⟩
section
variable {K : PySem.W.Frag} {H H' : Hp}
mutual
theorem Rep.mono : ∀ (d : D) {P P' : Pr} {v : V}, (∀ b, P b → isMut (H b)) → (∀ b o, H b = some o → ¬ P b → H' b = some o) → (∀ b, P' b → P b ∨ H b = none) → Rep K H d P v → Rep K H' d P' v
  | .non, _, _, _, _, _, _, h => by unfold Rep at h ⊢; exact h
  | .bl _, _, _, _, _, _, _, h => by unfold Rep at h ⊢; exact h
  | .int _, _, _, _, _, _, _, h => by unfold Rep at h ⊢; exact h
  | .str _, _, _, _, _, _, _, h => by unfold Rep at h ⊢; exact h
  | .tup ds, P, P', v, hm, k, hp, h => by
    unfold Rep at h ⊢
    obtain ⟨a, vs, rfl, ht, hr⟩ := h
    exact ⟨a, vs, rfl, k a _ ht fun z => (hm a z).nt (.inl ht), Reps.mono ds hm k hp hr⟩
  | .ftu ds, P, P', v, hm, k, hp, h => by
    unfold Rep at h ⊢
    obtain ⟨a, vs, o, rfl, ht, hd, hr⟩ := h
    exact ⟨a, vs, o, rfl, k a _ ht fun z => (hm a z).nt (.inr ⟨o, ht⟩), hd, Reps.mono ds hm k hp hr⟩
  | .tab p q, P, P', v, hm, k, hp, h => by
    unfold Rep at h ⊢
    obtain ⟨a, rfl, ha, ht⟩ := h
    refine ⟨a, rfl, fun z => ?_, TabS.mono hm k (fun o e => k a o e ha) ht⟩
    rcases hp a z with z | z
    · exact ha z
    · obtain ⟨_, ps, h1, _⟩ := ht
      rw [h1] at z; cases z
  | .lst ds, P, P', v, hm, k, hp, h => by
    unfold Rep at h ⊢
    obtain ⟨a, vs, rfl, ha, ht, hr⟩ := h
    refine ⟨a, vs, rfl, fun z => ?_, k a _ ht ha, Reps.mono ds (P := fun b => P b ∨ b = a) (fun b z => ?_) (fun b o e n => k b o e fun z => n (.inl z)) (fun b z => ?_) hr⟩
    · rcases hp a z with z | z
      · exact ha z
      · rw [ht] at z; cases z
    · rcases z with z | rfl
      · exact hm b z
      · rw [ht]; trivial
    · rcases z with z | z
      · rcases hp b z with z | z
        · exact .inl (.inl z)
        · exact .inr z
      · exact .inl (.inr z)
  | .arg ns, P, P', v, hm, k, hp, h => by
    unfold Rep at h ⊢
    obtain ⟨a, rfl, h⟩ := h
    refine ⟨a, rfl, ?_⟩
    rcases h with ⟨ha, ht⟩ | h
    · refine .inl ⟨fun z => ?_, Rd.keep ht fun o e => k a o e ha⟩
      rcases hp a z with z | z
      · exact ha z
      · exact Rd.some ht z
    · exact .inr h
  | .dik ks ds, P, P', v, hm, k, hp, h => by
    unfold Rep at h ⊢
    obtain ⟨a, vs, rfl, ha, hl, ht, hr⟩ := h
    refine ⟨a, vs, rfl, fun z => ?_, hl, Rd.keep ht fun o e => k a o e ha, Reps.mono ds (P := fun b => P b ∨ b = a) (fun b z => ?_) (fun b o e n => k b o e fun z => n (.inl z)) (fun b z => ?_) hr⟩
    · rcases hp a z with z | z
      · exact ha z
      · exact Rd.some ht z
    · rcases z with z | rfl
      · exact hm b z
      · rcases ht with e | ⟨o, e⟩ <;> (rw [e]; trivial)
    · rcases z with z | z
      · rcases hp b z with z | z
        · exact .inl (.inl z)
        · exact .inr z
      · exact .inl (.inr z)
  | .dit ks ds, P, P', v, hm, k, hp, h => by
    unfold Rep at h ⊢
    obtain ⟨a, vs, rfl, ha, hl, ht, hr⟩ := h
    refine ⟨a, vs, rfl, fun z => ?_, hl, Rd.keep ht fun o e => k a o e ha, Reps.mono ds (P := fun b => P b ∨ b = a) (fun b z => ?_) (fun b o e n => k b o e fun z => n (.inl z)) (fun b z => ?_) hr⟩
    · rcases hp a z with z | z
      · exact ha z
      · exact Rd.some ht z
    · rcases z with z | rfl
      · exact hm b z
      · rcases ht with e | ⟨o, e⟩ <;> (rw [e]; trivial)
    · rcases z with z | z
      · rcases hp b z with z | z
        · exact .inl (.inl z)
        · exact .inr z
      · exact .inl (.inr z)
theorem Reps.mono : ∀ (ds : List D) {P P' : Pr} {vs : List V}, (∀ b, P b → isMut (H b)) → (∀ b o, H b = some o → ¬ P b → H' b = some o) → (∀ b, P' b → P b ∨ H b = none) → Reps K H ds P vs → Reps K H' ds P' vs
  | [], _, _, _, _, _, _, h => by unfold Reps at h ⊢; exact h
  | d :: ds, P, P', vs, hm, k, hp, h => by
    unfold Reps at h ⊢
    obtain ⟨v, ws, rfl, h1, h2⟩ := h
    exact ⟨v, ws, rfl, Rep.mono d hm k hp h1, Reps.mono ds hm k hp h2⟩
end
theorem Reps.length : ∀ {ds : List D} {P : Pr} {vs : List V}, Reps K H ds P vs → vs.length = ds.length
  | [], _, _, h => by unfold Reps at h; subst h; rfl
  | d :: ds, P, vs, h => by
    unfold Reps at h
    obtain ⟨v, ws, rfl, _, h2⟩ := h
    rw [List.length_cons, List.length_cons, Reps.length h2]
theorem Reps.nil {P : Pr} : Reps K H [] P [] := by unfold Reps; rfl
theorem Reps.cons {d : D} {ds : List D} {P : Pr} {v : V} {vs : List V} (h : Rep K H d P v) (h2 : Reps K H ds P vs) : Reps K H (d :: ds) P (v :: vs) := by
  unfold Reps; exact ⟨v, vs, rfl, h, h2⟩
theorem Reps.nil_iff {P : Pr} {vs : List V} (h : Reps K H [] P vs) : vs = [] := by unfold Reps at h; exact h
theorem Reps.cons_iff {d : D} {ds : List D} {P : Pr} {vs : List V} (h : Reps K H (d :: ds) P vs) : ∃ v ws, vs = v :: ws ∧ Rep K H d P v ∧ Reps K H ds P ws := by unfold Reps at h; exact h
theorem Reps.get : ∀ {ds : List D} {P : Pr} {vs : List V} {i : Nat} {d : D}, Reps K H ds P vs → ds[i]? = some d → ∃ v, vs[i]? = some v ∧ Rep K H d P v
  | [], _, _, _, _, _, e => by simp at e
  | d :: ds, P, vs, 0, d', h, e => by
    obtain ⟨v, ws, rfl, h1, _⟩ := h.cons_iff
    simp at e; subst e
    exact ⟨v, rfl, h1⟩
  | d :: ds, P, vs, i + 1, d', h, e => by
    obtain ⟨v, ws, rfl, _, h2⟩ := h.cons_iff
    simpa using Reps.get h2 (by simpa using e)
theorem Reps.append : ∀ {ds es : List D} {P : Pr} {vs ws : List V}, Reps K H ds P vs → Reps K H es P ws → Reps K H (ds ++ es) P (vs ++ ws)
  | [], _, _, _, _, h, h2 => by rw [h.nil_iff]; exact h2
  | d :: ds, es, P, vs, ws, h, h2 => by
    obtain ⟨v, us, rfl, h1, h3⟩ := h.cons_iff
    exact Reps.cons h1 (Reps.append h3 h2)
/-- forbidding less -/
theorem Rep.less {d : D} {P P' : Pr} {v : V} (hm : ∀ b, P b → isMut (H b)) (h : Rep K H d P v) (hp : ∀ b, P' b → P b) : Rep K H d P' v := h.mono d hm (fun _ _ e _ => e) fun b z => .inl (hp b z)
theorem Reps.less {ds : List D} {P P' : Pr} {vs : List V} (hm : ∀ b, P b → isMut (H b)) (h : Reps K H ds P vs) (hp : ∀ b, P' b → P b) : Reps K H ds P' vs := h.mono ds hm (fun _ _ e _ => e) fun b z => .inl (hp b z)
/-- nothing that stood is changed -/
theorem Rep.same {d : D} {P : Pr} {v : V} (hm : ∀ b, P b → isMut (H b)) (h : Rep K H d P v) (k : Same H H') : Rep K H' d P v := h.mono d hm (fun b o e _ => k b o e) fun _ z => .inl z
theorem Reps.same {ds : List D} {P : Pr} {vs : List V} (hm : ∀ b, P b → isMut (H b)) (h : Reps K H ds P vs) (k : Same H H') : Reps K H' ds P vs := h.mono ds hm (fun b o e _ => k b o e) fun _ z => .inl z
theorem mutL {a : Addr} {P : Pr} {vs : List V} (hm : ∀ b, P b → isMut (H b)) (h : H a = some (.lst vs)) : ∀ b, P b ∨ b = a → isMut (H b) := fun b z => by
  rcases z with z | rfl
  · exact hm b z
  · rw [h]; trivial
theorem mutK {a : Addr} {P : Pr} {vs : List (Key × V)} (hm : ∀ b, P b → isMut (H b)) (h : Rd H a (.dK vs)) : ∀ b, P b ∨ b = a → isMut (H b) := fun b z => by
  rcases z with z | rfl
  · exact hm b z
  · rcases h with e | ⟨o, e⟩ <;> (rw [e]; trivial)
theorem mutT {a : Addr} {P : Pr} {vs : List (List Key × V)} (hm : ∀ b, P b → isMut (H b)) (h : Rd H a (.dT vs)) : ∀ b, P b ∨ b = a → isMut (H b) := fun b z => by
  rcases z with z | rfl
  · exact hm b z
  · rcases h with e | ⟨o, e⟩ <;> (rw [e]; trivial)
theorem Rep.weak {d : D} {P : Pr} {v : V} (hm : ∀ b, P b → isMut (H b)) (h : Rep K H d P v) : RepW K H d P v := by
  cases d with
  | lst ds =>
    unfold Rep at h; unfold RepW
    obtain ⟨a, vs, rfl, _, ht, hr⟩ := h
    exact ⟨a, vs, rfl, ht, hr.less (mutL hm ht) fun b z => .inl z⟩
  | arg ns =>
    unfold Rep at h; unfold RepW
    obtain ⟨a, rfl, h⟩ := h
    rcases h with ⟨_, h⟩ | h
    · exact ⟨a, rfl, .inl h⟩
    · refine ⟨a, rfl, .inr ?_⟩
      rcases h with h | h
      · rcases h with e | ⟨o, e⟩ <;> cases e
      · exact h
  | dik ks ds =>
    unfold Rep at h; unfold RepW
    obtain ⟨a, vs, rfl, _, hl, ht, hr⟩ := h
    exact ⟨a, vs, rfl, hl, ht, hr.less (mutK hm ht) fun b z => .inl z⟩
  | dit ks ds =>
    unfold Rep at h; unfold RepW
    obtain ⟨a, vs, rfl, _, hl, ht, hr⟩ := h
    exact ⟨a, vs, rfl, hl, ht, hr.less (mutT hm ht) fun b z => .inl z⟩
  | non => exact h
  | bl _ => exact h
  | int _ => exact h
  | str _ => exact h
  | tup _ => exact h
  | ftu _ => exact h
  | tab p q => unfold Rep at h; unfold RepW; obtain ⟨a, rfl, _, ht⟩ := h; exact ⟨a, rfl, ht⟩
theorem RepO.weak {d : D} {P : Pr} {v : V} (h : RepO K H d P v) : RepW K H d P v := by
  cases d with
  | lst ds => obtain ⟨a, vs, rfl, ht, hr⟩ := h; exact ⟨a, vs, rfl, ht, hr⟩
  | dik ks ds => obtain ⟨a, vs, rfl, hl, ht, hr⟩ := h; exact ⟨a, vs, rfl, hl, .inl ht, hr⟩
  | dit ks ds => obtain ⟨a, vs, rfl, hl, ht, hr⟩ := h; exact ⟨a, vs, rfl, hl, .inl ht, hr⟩
  | non => unfold RepW Rep; exact h
  | bl _ => unfold RepW Rep; exact h
  | int _ => unfold RepW Rep; exact h
  | str _ => unfold RepW Rep; exact h
  | tup _ => exact False.elim h
  | arg _ => exact False.elim h
  | ftu _ => exact False.elim h
  | tab p q => exact h
theorem Rep.of_same {d : D} {P : Pr} {v : V} (hm : ∀ b, P b → isMut (H b)) (h : Rep K H d P v) (k : ∀ b o, H b = some o → ¬ P b → H' b = some o) : Rep K H' d P v := h.mono d hm k fun _ z => .inl z
/-- a new list, tuple -/
theorem Rep.newL {ds : List D} {P : Pr} {vs : List V} {p : Addr} (hm : ∀ b, P b → isMut (H b)) (h : Reps K H ds P vs) (hp : H p = none) : Rep K (upd H p (.lst vs)) (.lst ds) P (.ref p) := by
  unfold Rep
  refine ⟨p, vs, rfl, fun z => (hm p z).some hp, upd_same, h.mono ds hm (fun b o e _ => ?_) fun b z => ?_⟩
  · rw [upd_ne (ne_of_none e hp)]; exact e
  · rcases z with z | rfl
    · exact .inl z
    · exact .inr hp
theorem Rep.newT {ds : List D} {P : Pr} {vs : List V} {p : Addr} (hm : ∀ b, P b → isMut (H b)) (h : Reps K H ds P vs) (hp : H p = none) : Rep K (upd H p (.tup vs)) (.tup ds) P (.ref p) := by
  unfold Rep
  refine ⟨p, vs, rfl, upd_same, h.mono ds hm (fun b o e _ => ?_) fun b z => .inl z⟩
  rw [upd_ne (ne_of_none e hp)]; exact e
theorem Same.new {p : Addr} {o : HO} (hp : H p = none) : Same H (upd H p o) := fun b u e => by rw [upd_ne (ne_of_none e hp)]; exact e
end

/-- the own slots' objects -/
def OA (O : List Nat) (σ : St) (b : Addr) : Prop := ∃ i, i ∈ O ∧ σ[i]? = some (some (.ref b))
def FA (P0 : Pr) (O : List Nat) (σ : St) : Pr := fun b => P0 b ∨ OA O σ b
/-- the names' data ρ lie in the slots σ over H. P0: forbidden here; O: the own slots, whose lists and dicts this def may change: nothing else leads to them -/
structure Sim (K : PySem.W.Frag) (P0 : Pr) (O W : List Nat) (ρ : Env) (σ : St) (H : Hp) : Prop where
  sub : ∀ i ∈ W, i ∈ O
  len : ρ.length ≤ σ.length
  dom : ∀ b, FA P0 O σ b → isMut (H b)
  val : ∀ i d, ρ[i]? = some (some d) → i ∉ O → ∃ v, σ[i]? = some (some v) ∧ Rep K H d (FA P0 O σ) v
  own : ∀ i d, ρ[i]? = some (some d) → i ∈ O → ∃ v, σ[i]? = some (some v) ∧ RepO K H d (FA P0 O σ) v
  sep : ∀ i j a, i ∈ O → j ∈ O → σ[i]? = some (some (.ref a)) → σ[j]? = some (some (.ref a)) → i = j
  sep0 : ∀ a, OA O σ a → ¬ P0 a
/-- what an expression may do to the heap -/
structure Keep (O : List Nat) (σ : St) (H H' : Hp) : Prop where
  keep : ∀ b o, H b = some o → ¬ OA O σ b → H' b = some o
  some : ∀ b, H b ≠ none → H' b ≠ none
theorem Keep.refl {W : List Nat} {σ : St} {H : Hp} : Keep W σ H H := ⟨fun _ _ e _ => e, fun _ e => e⟩
theorem Keep.trans {W : List Nat} {σ : St} {H H1 H2 : Hp} (a : Keep W σ H H1) (b : Keep W σ H1 H2) : Keep W σ H H2 :=
  ⟨fun c o e n => b.keep c o (a.keep c o e n) n, fun c e => b.some c (a.some c e)⟩
theorem Keep.same {W : List Nat} {σ : St} {H H' : Hp} (k : Same H H') : Keep W σ H H' := ⟨fun b o e _ => k b o e, fun b e => by
  cases q : H b with
  | none => exact absurd q e
  | some o => rw [k b o q]; intro z; cases z⟩
section
variable {K : PySem.W.Frag} {P0 : Pr} {O W : List Nat} {ρ ρ' : Env} {σ : St} {H H' : Hp}
theorem Sim.oaw (S : Sim K P0 O W ρ σ H) {b : Addr} (z : OA W σ b) : OA O σ b := let ⟨i, hi, e⟩ := z; ⟨i, S.sub i hi, e⟩
theorem Sim.rep (S : Sim K P0 O W ρ σ H) (k : Keep W σ H H') {d : D} {v : V} (h : Rep K H d (FA P0 O σ) v) : Rep K H' d (FA P0 O σ) v :=
  h.of_same S.dom fun b o e n => k.keep b o e fun z => n (.inr (S.oaw z))
/-- all that stood stands -/
theorem Sim.same (S : Sim K P0 O W ρ σ H) (k : Same H H') : Sim K P0 O W ρ σ H' where
  sub := S.sub
  len := S.len
  dom := fun b z => by
    have q := S.dom b z
    cases e : H b with
    | none => rw [e] at q; exact q.elim
    | some o => rw [k b o e, ← e]; exact q
  val := fun i d e n => let ⟨v, h1, h2⟩ := S.val i d e n; ⟨v, h1, h2.same S.dom k⟩
  own := fun i d e n => by
    obtain ⟨v, h1, h2⟩ := S.own i d e n
    refine ⟨v, h1, ?_⟩
    cases d with
    | lst ds => obtain ⟨a, vs, rfl, ht, hr⟩ := h2; exact ⟨a, vs, rfl, k _ _ ht, hr.same S.dom k⟩
    | dik ks ds => obtain ⟨a, vs, rfl, hl, ht, hr⟩ := h2; exact ⟨a, vs, rfl, hl, k _ _ ht, hr.same S.dom k⟩
    | dit ks ds => obtain ⟨a, vs, rfl, hl, ht, hr⟩ := h2; exact ⟨a, vs, rfl, hl, k _ _ ht, hr.same S.dom k⟩
    | non => exact h2
    | bl _ => exact h2
    | int _ => exact h2
    | str _ => exact h2
    | tup _ => exact h2
    | arg _ => exact h2
    | ftu _ => exact h2
    | tab p q => obtain ⟨a, rfl, ht⟩ := h2; exact ⟨a, rfl, ht.ext k⟩
  sep := S.sep
  sep0 := S.sep0
/-- what lies in a slot, for reading -/
theorem Sim.look (S : Sim K P0 O W ρ σ H) {i : Nat} {d : D} (h : look i ρ = .ok d) : ∃ v, σ[i]? = some (some v) ∧ RepW K H d (FA P0 O σ) v := by
  unfold Y.look at h
  split at h
  · rename_i d' e
    cases h
    by_cases hi : i ∈ O
    · obtain ⟨v, h1, h2⟩ := S.own i d e hi
      exact ⟨v, h1, h2.weak⟩
    · obtain ⟨v, h1, h2⟩ := S.val i d e hi
      exact ⟨v, h1, h2.weak S.dom⟩
  · cases h
end
/-- what a handle says of a value; Hs: the heap ahead -/
def HdR (K : PySem.W.Frag) (P0 : Pr) (O : List Nat) (Hs : Hp) (σ : St) (H : Hp) : Hd → V → Prop
  | .fr d, v => Rep K H d (FA P0 O σ) v ∧ (d.isMu = true → ∀ a, v = .ref a → Hs a = none)
  | .vl d, v => Rep K H d (FA P0 O σ) v
  | .ow i, v => i ∈ O ∧ σ[i]? = some (some v)
section
variable {K : PySem.W.Frag} {P0 : Pr} {O W : List Nat} {ρ ρ' : Env} {σ : St} {Hs Hs' H H' : Hp}
theorem HdR.keep (S : Sim K P0 O W ρ σ H) (k : Keep W σ H H') {h : Hd} {v : V} (r : HdR K P0 O Hs σ H h v) : HdR K P0 O Hs σ H' h v := by
  cases h with
  | fr d => exact ⟨S.rep k r.1, r.2⟩
  | vl d => exact S.rep k r
  | ow i => exact r
/-- ahead of that -/
theorem HdR.back (k : ∀ b, Hs' b ≠ none → Hs b ≠ none) {h : Hd} {v : V} (r : HdR K P0 O Hs σ H h v) : HdR K P0 O Hs' σ H h v := by
  cases h with
  | fr d => exact ⟨r.1, fun m a e => Classical.byContradiction fun z => k a z (r.2 m a e)⟩
  | vl d => exact r
  | ow i => exact r
theorem HdR.d (S : Sim K P0 O W ρ σ H) {h : Hd} {v : V} {d : D} (r : HdR K P0 O Hs σ H h v) (e : h.d ρ = .ok d) : RepW K H d (FA P0 O σ) v := by
  cases h with
  | fr d' => cases e; exact r.1.weak S.dom
  | vl d' => cases e; exact Rep.weak S.dom r
  | ow i =>
    obtain ⟨w, h1, h2⟩ := S.look e
    have q : σ[i]? = some (some v) := r.2
    rw [q] at h1; cases h1
    exact h2
theorem HdR.v {h : Hd} {v : V} {d : D} (r : HdR K P0 O Hs σ H h v) (e : h.v = .ok d) : Rep K H d (FA P0 O σ) v := by
  cases h with
  | fr d' => cases e; exact r.1
  | vl d' => cases e; exact r
  | ow i => cases e
end
end Y

set_option Elab.async false
set_option linter.all false
set_option maxRecDepth 100000
namespace Y
open PySem PySem.Spec PyProof.Rows L2

/-- no exception is told on -/
def R.nox {α : Type} : R α → R α
  | .er _ _ => .stk
  | x => x
@[simp] theorem R.nox_ok {α : Type} (a : α) : (R.ok a).nox = .ok a := id rfl
@[simp] theorem R.nox_stk {α : Type} : (R.stk : R α).nox = .stk := id rfl
abbrev EK := Str → List D → Hp → Prop
def Res (E : EK) (W : List Nat) (σ : St) (H : Hp) {α : Type} (r : R α) (k : α → Prop) : Prop := match r with
  | .ok a => k a
  | .er c ds => ∀ H', Keep W σ H H' → E c ds H'
  | .stk => False
section
variable {E : EK} {O W : List Nat} {σ : St} {H H1 : Hp} {α β : Type}
theorem Res.of_bind {r : R α} {f : α → R β} {k : β → Prop} (h : Res E W σ H (r >>= f) k) : Res E W σ H r fun a => Res E W σ H (f a) k := by cases r <;> exact h
theorem Res.mono {r : R α} {k k' : α → Prop} (h : Res E W σ H r k) (i : ∀ a, k a → k' a) : Res E W σ H r k' := by
  cases r with
  | ok a => exact i a h
  | er c ds => exact h
  | stk => exact h
theorem Res.keep {r : R α} {k : α → Prop} (h : Res E W σ H r k) (kp : Keep W σ H H1) : Res E W σ H1 r k := by
  cases r with
  | ok a => exact h
  | er c ds => exact fun H' k2 => h H' (kp.trans k2)
  | stk => exact h
theorem Res.of_nox {r : R α} {f : α → R β} {k : β → Prop} (h : Res E W σ H (r.nox >>= f) k) : ∃ a, r = .ok a ∧ Res E W σ H (f a) k := by
  cases r with
  | ok a => exact ⟨a, rfl, h⟩
  | er c ds => exact h.elim
  | stk => exact h.elim
theorem Res.of_nox1 {r : R α} {k : α → Prop} (h : Res E W σ H r.nox k) : ∃ a, r = .ok a ∧ k a := by
  cases r with
  | ok a => exact ⟨a, rfl, h⟩
  | er c ds => exact h.elim
  | stk => exact h.elim
end

def tM (K : PySem.W.Frag) (P0 : Pr) (O W : List Nat) (E : EK) (m : EM) : TE := fun σ H Q => ∃ ρ, Sim K P0 O W ρ σ H ∧
  Res E W σ H (m ρ) fun a => ∀ v H', Sim K P0 O W a.2 σ H' → Keep W σ H H' → HdR K P0 O H σ H' a.1 v → Q v H'
/-- several, from the left -/
def HdRs (K : PySem.W.Frag) (P0 : Pr) (O : List Nat) (Hs : Hp) (σ : St) (H : Hp) : List Hd → List V → Prop
  | [], vs => vs = []
  | h :: hs, vs => ∃ v ws, vs = v :: ws ∧ HdR K P0 O Hs σ H h v ∧ HdRs K P0 O Hs σ H hs ws
abbrev AM := Env → R (List Hd × Env)
def tMs (K : PySem.W.Frag) (P0 : Pr) (O W : List Nat) (E : EK) (m : AM) : TA := fun σ H Q => ∃ ρ, Sim K P0 O W ρ σ H ∧
  Res E W σ H (m ρ) fun a => ∀ vs H', Sim K P0 O W a.2 σ H' → Keep W σ H H' → HdRs K P0 O H σ H' a.1 vs → Q vs H'
abbrev BM := Env → R (Bool × Env)
def tMt (K : PySem.W.Frag) (P0 : Pr) (O W : List Nat) (E : EK) (m : BM) : TT := fun σ H Q => ∃ ρ, Sim K P0 O W ρ σ H ∧
  Res E W σ H (m ρ) fun a => ∀ H', Sim K P0 O W a.2 σ H' → Keep W σ H H' → Q a.1 H'
theorem PE.imp {X : Cx} {e : Expr} {t t' : TE} (h : PE X e t) (i : ∀ σ H Q, t' σ H Q → t σ H Q) : PE X e t' := ⟨fun pins s σ H Q I q => h.run pins s σ H Q I (i σ H Q q)⟩
theorem PT.imp {X : Cx} {e : Expr} {t t' : TT} (h : PT X e t) (i : ∀ σ H Q, t' σ H Q → t σ H Q) : PT X e t' := ⟨fun pins s σ H Q I q => h.run pins s σ H Q I (i σ H Q q)⟩
theorem PW.imp {X : Cx} {e : Expr} {t t' : TT} (h : PW X e t) (i : ∀ σ H Q, t' σ H Q → t σ H Q) : PW X e t' := ⟨fun w pins s σ H Q I q => h.run w pins s σ H Q I (i σ H Q q)⟩
theorem PA.imp {X : Cx} {e : List Expr} {t t' : TA} (h : PA X e t) (i : ∀ σ H Q, t' σ H Q → t σ H Q) : PA X e t' := ⟨fun p pins s σ H Q I q => h.run p pins s σ H Q I (i σ H Q q)⟩
theorem PS.imp {X : Cx} {e : Stmt} {t t' : TS} (h : PS X e t) (i : ∀ D σ H, t' D σ H → t D σ H) : PS X e t' := ⟨fun pins s σ H D I q => h.run pins s σ H D I (i D σ H q)⟩
theorem PSs.imp {X : Cx} {e : List Stmt} {t t' : TS} (h : PSs X e t) (i : ∀ D σ H, t' D σ H → t D σ H) : PSs X e t' := ⟨fun pins s σ H D I q => h.run pins s σ H D I (i D σ H q)⟩
theorem PE.or {X : Cx} {e : Expr} {t t' : TE} (h : PE X e t) (h' : PE X e t') : PE X e fun σ H Q => t σ H Q ∨ t' σ H Q :=
  ⟨fun pins s σ H Q I q => q.elim (h.run pins s σ H Q I) (h'.run pins s σ H Q I)⟩
section
variable {K : PySem.W.Frag} {P0 : Pr} {O W : List Nat} {ρ ρ' : Env} {σ : St} {Hs Hs' H H' : Hp}
theorem HdRs.keep (S : Sim K P0 O W ρ σ H) (k : Keep W σ H H') : ∀ {hs : List Hd} {vs : List V}, HdRs K P0 O Hs σ H hs vs → HdRs K P0 O Hs σ H' hs vs
  | [], _, r => r
  | h :: hs, _, ⟨v, ws, e, r1, r2⟩ => ⟨v, ws, e, r1.keep S k, HdRs.keep S k r2⟩
theorem HdRs.back (k : ∀ b, Hs' b ≠ none → Hs b ≠ none) : ∀ {hs : List Hd} {vs : List V}, HdRs K P0 O Hs σ H hs vs → HdRs K P0 O Hs' σ H hs vs
  | [], _, r => r
  | h :: hs, _, ⟨v, ws, e, r1, r2⟩ => ⟨v, ws, e, r1.back k, HdRs.back k r2⟩
end

def cVar (i : Nat) : EM := fun ρ => do
  let d ← (look i ρ).nox
  pure (.vl d, ρ)
def cOwn (i : Nat) : EM := fun ρ => do
  let _ ← (look i ρ).nox
  pure (.ow i, ρ)
def cC (d : D) : EM := fun ρ => .ok (.fr d, ρ)
theorem look_some {i : Nat} {ρ : Env} {d : D} (h : look i ρ = .ok d) : ρ[i]? = some (some d) := by
  unfold look at h
  split at h
  · rename_i e; cases h; exact e
  · cases h
section
variable {X : Cx} {P0 : Pr} {O W : List Nat} {E : EK} {pos : Pos}
abbrev CEx (X : Cx) (P0 : Pr) (O W : List Nat) (E : EK) (e : Expr) (m : EM) : Prop := PE X e (tM X.K P0 O W E m)
theorem ce_var (i : Nat) {x : Str} (ho : i ∉ O := by decide) (hN : X.N[i]? = some x := by rfl) (hv : Vis X.env.scope x := by first | exact Or.inl rfl | exact Or.inr (Or.inl rfl) | exact Or.inr (Or.inr rfl)) (hd : (x == ("__debug__" : Str)) = false := by decide)
    (hcd : (x == ("__classdict__" : Str)) = false := by decide) : CEx X P0 O W E (.Name x pos) (cVar i) := PE.imp (pe_var (i := i) hN hv hd hcd) fun σ H Q ⟨ρ, S, h⟩ => by
  obtain ⟨d, e, h⟩ := h.of_nox
  obtain ⟨v, h1, h2⟩ := S.val i d (look_some e) ho
  exact ⟨v, h1, h v H S .refl h2⟩
theorem ce_own (i : Nat) {x : Str} (ho : i ∈ O := by decide) (hN : X.N[i]? = some x := by rfl) (hv : Vis X.env.scope x := by first | exact Or.inl rfl | exact Or.inr (Or.inl rfl) | exact Or.inr (Or.inr rfl)) (hd : (x == ("__debug__" : Str)) = false := by decide)
    (hcd : (x == ("__classdict__" : Str)) = false := by decide) : CEx X P0 O W E (.Name x pos) (cOwn i) := PE.imp (pe_var (i := i) hN hv hd hcd) fun σ H Q ⟨ρ, S, h⟩ => by
  obtain ⟨d, e, h⟩ := h.of_nox
  obtain ⟨v, h1, h2⟩ := S.own i d (look_some e) ho
  exact ⟨v, h1, h v H S .refl ⟨ho, h1⟩⟩
theorem c_of {v : V} {d : D} (h : ∀ H P, Rep X.K H d P v) (hm : d.isMu = false) : ∀ σ H Q, tM X.K P0 O W E (cC d) σ H Q → tC v σ H Q := fun σ H Q ⟨ρ, S, q⟩ =>
  q v H S .refl ⟨h _ _, fun z => by rw [hm] at z; cases z⟩
theorem ce_int {i j} : CEx X P0 O W E (.Constant (.int i) j pos) (cC (.int i)) := PE.imp pe_int (c_of (fun _ _ => by unfold Rep; rfl) rfl)
theorem ce_bl {i j} : CEx X P0 O W E (.Constant (.bool i) j pos) (cC (.bl i)) := PE.imp pe_bl (c_of (fun _ _ => by unfold Rep; rfl) rfl)
theorem ce_str {i j} : CEx X P0 O W E (.Constant (.str i) j pos) (cC (.str i)) := PE.imp pe_str (c_of (fun _ _ => by unfold Rep; rfl) rfl)
theorem ce_non {j} : CEx X P0 O W E (.Constant .none j pos) (cC .non) := PE.imp pe_non (c_of (fun _ _ => by unfold Rep; rfl) rfl)
end

def cOp (f : D → D → R D) (a b : EM) : EM := fun ρ => do
  let (h1, ρ1) ← a ρ
  let (h2, ρ2) ← b ρ1
  let x ← (h1.d ρ2).nox
  let y ← (h2.d ρ2).nox
  let z ← (f x y).nox
  pure (.fr z, ρ2)
/-- what is told on of an operation: new data -/
def Out (K : PySem.W.Frag) (P : Pr) (H : Hp) (d : D) (Q : VK) : Prop := ∀ v H', Same H H' → Rep K H' d P v → (d.isMu = true → ∀ a, v = .ref a → H a = none) → Q v H'
def rD (K : PySem.W.Frag) (f : D → D → R D) : R2 := fun x y H Q => ∃ (P : Pr) (dx dy dz : D), (∀ b, P b → isMut (H b)) ∧ RepW K H dx P x ∧ RepW K H dy P y ∧ f dx dy = .ok dz ∧ Out K P H dz Q
theorem Same.some {H H' : Hp} (k : Same H H') : ∀ b, H b ≠ none → H' b ≠ none := fun b e => by
  cases q : H b with
  | none => exact absurd q e
  | some o => rw [k b o q]; intro z; cases z
section
variable {K : PySem.W.Frag} {P0 : Pr} {O W : List Nat} {E : EK}
/-- an operation's end, told to what follows -/
theorem out_of {ρ : Env} {σ : St} {H H1 : Hp} {Q : VK} {d : D} (S : Sim K P0 O W ρ σ H1) (k : Keep W σ H H1)
    (h : ∀ v H', Sim K P0 O W ρ σ H' → Keep W σ H H' → HdR K P0 O H σ H' (.fr d) v → Q v H') : Out K (FA P0 O σ) H1 d Q := fun v H' sm r fr =>
  h v H' (S.same sm) (k.trans (Keep.same sm)) ⟨r, fun m a e => Classical.byContradiction fun z => k.some a z (fr m a e)⟩
theorem tM_op {f : D → D → R D} {a b : EM} (σ : St) (H : Hp) (Q : VK) (h : tM K P0 O W E (cOp f a b) σ H Q) : tOp (rD K f) (tM K P0 O W E a) (tM K P0 O W E b) σ H Q := by
  obtain ⟨ρ, S, h⟩ := h
  refine ⟨ρ, S, h.of_bind.mono fun ⟨h1, ρ1⟩ q x H1 S1 k1 r1 => ⟨ρ1, S1, (q.keep k1).of_bind.mono fun ⟨h2, ρ2⟩ q2 y H2 S2 k2 r2 => ?_⟩⟩
  obtain ⟨dx, e1, q3⟩ := q2.of_nox
  obtain ⟨dy, e2, q4⟩ := q3.of_nox
  obtain ⟨dz, e3, q5⟩ := q4.of_nox
  exact ⟨FA P0 O σ, dx, dy, dz, S2.dom, (r1.keep S1 k2).d S2 e1, r2.d S2 e2, e3, out_of S2 (k1.trans k2) q5⟩
/-- new data of no object -/
theorem Out.flat {P : Pr} {H : Hp} {d : D} {v : V} {Q : VK} (h : Out K P H d Q) (r : Rep K H d P v) (hm : d.isMu = false) : Q v H := h v H (fun _ _ e => e) r fun z => by rw [hm] at z; cases z
theorem Out.int {P : Pr} {H : Hp} {i : Int} {Q : VK} (h : Out K P H (.int i) Q) : Q (.int i) H := h.flat (by unfold Rep; rfl) rfl
theorem Out.bl {P : Pr} {H : Hp} {i : Bool} {Q : VK} (h : Out K P H (.bl i) Q) : Q (.bl i) H := h.flat (by unfold Rep; rfl) rfl
theorem Out.str {P : Pr} {H : Hp} {i : Str} {Q : VK} (h : Out K P H (.str i) Q) : Q (.str i) H := h.flat (by unfold Rep; rfl) rfl
theorem Out.non {P : Pr} {H : Hp} {Q : VK} (h : Out K P H .non Q) : Q .non H := h.flat (by unfold Rep; rfl) rfl
theorem Out.newL {P : Pr} {H : Hp} {ds : List D} {vs : List V} {Q : VK} (h : Out K P H (.lst ds) Q) (hm : ∀ b, P b → isMut (H b)) (r : Reps K H ds P vs) {p : Addr} (hp : H p = none) : Q (.ref p) (upd H p (.lst vs)) :=
  h _ _ (Same.new hp) (Rep.newL hm r hp) fun _ a e => by cases e; exact hp
theorem Out.newT {P : Pr} {H : Hp} {ds : List D} {vs : List V} {Q : VK} (h : Out K P H (.tup ds) Q) (hm : ∀ b, P b → isMut (H b)) (r : Reps K H ds P vs) {p : Addr} (hp : H p = none) : Q (.ref p) (upd H p (.tup vs)) :=
  h _ _ (Same.new hp) (Rep.newT hm r hp) fun z => by cases z
/-- reading a datum's form -/
theorem RepW.int {H : Hp} {i : Int} {P : Pr} {v : V} (h : RepW K H (.int i) P v) : v = .int i := by unfold RepW Rep at h; exact h
theorem RepW.bl {H : Hp} {i : Bool} {P : Pr} {v : V} (h : RepW K H (.bl i) P v) : v = .bl i := by unfold RepW Rep at h; exact h
theorem RepW.str {H : Hp} {i : Str} {P : Pr} {v : V} (h : RepW K H (.str i) P v) : v = .str i := by unfold RepW Rep at h; exact h
theorem RepW.non {H : Hp} {P : Pr} {v : V} (h : RepW K H .non P v) : v = .non := by unfold RepW Rep at h; exact h
theorem RepW.tup {H : Hp} {ds : List D} {P : Pr} {v : V} (h : RepW K H (.tup ds) P v) : ∃ a vs, v = .ref a ∧ H a = some (.tup vs) ∧ Reps K H ds P vs := by unfold RepW Rep at h; exact h
theorem RepW.ftu {H : Hp} {ds : List D} {P : Pr} {v : V} (h : RepW K H (.ftu ds) P v) : ∃ a vs o, v = .ref a ∧ H a = some (.frz o (.tup vs)) ∧ o.dict = none ∧ Reps K H ds P vs := by unfold RepW Rep at h; exact h
theorem SqT.fz {H : Hp} {a : Addr} {o : Obj} {vs : List V} (h : H a = some (.frz o (.tup vs))) : SqT K H a vs := .inl (.inr ⟨o, h⟩)
theorem RepW.lst {H : Hp} {ds : List D} {P : Pr} {v : V} (h : RepW K H (.lst ds) P v) : ∃ a vs, v = .ref a ∧ H a = some (.lst vs) ∧ Reps K H ds P vs := h
theorem RepW.arg {H : Hp} {ds : List Int} {P : Pr} {v : V} (h : RepW K H (.arg ds) P v) : ∃ a, v = .ref a ∧ SqL K H a (ds.map V.int) := h
theorem Rep.ftu_of {H : Hp} {ds : List D} {P : Pr} {a : Addr} {o : Obj} {vs : List V} (h : H a = some (.frz o (.tup vs))) (hd : o.dict = none) (r : Reps K H ds P vs) : Rep K H (.ftu ds) P (.ref a) := by unfold Rep; exact ⟨a, vs, o, rfl, h, hd, r⟩
theorem Rep.tup_of {H : Hp} {ds : List D} {P : Pr} {a : Addr} {vs : List V} (h : H a = some (.tup vs)) (r : Reps K H ds P vs) : Rep K H (.tup ds) P (.ref a) := by unfold Rep; exact ⟨a, vs, rfl, h, r⟩
/-- a list or a tuple, for reading -/
def seqOf : D → Option (List D)
  | .lst ds => some ds
  | .tup ds => some ds
  | .arg ns => some (ns.map D.int)
  | .ftu ds => some ds
  | _ => none
theorem reps_ints {H : Hp} {P : Pr} : ∀ ns : List Int, Reps K H (ns.map D.int) P (ns.map V.int)
  | [] => Reps.nil
  | n :: ns => Reps.cons (by unfold Rep; rfl) (reps_ints ns)
theorem RepW.seq {H : Hp} {d : D} {ds : List D} {P : Pr} {v : V} (h : RepW K H d P v) (e : seqOf d = some ds) : ∃ a vs, v = .ref a ∧ (SqL K H a vs ∨ SqT K H a vs) ∧ Reps K H ds P vs := by
  cases d <;> simp only [seqOf, Option.some.injEq, reduceCtorEq] at e
  · subst e; obtain ⟨a, vs, rfl, h1, h2⟩ := h.tup; exact ⟨a, vs, rfl, .inr (SqT.of h1), h2⟩
  · subst e; obtain ⟨a, vs, rfl, h1, h2⟩ := h.lst; exact ⟨a, vs, rfl, .inl (SqL.of h1), h2⟩
  · subst e; obtain ⟨a, rfl, h1⟩ := h.arg; exact ⟨a, _, rfl, .inl h1, reps_ints _⟩
  · subst e; obtain ⟨a, vs, o, rfl, h1, _, h2⟩ := h.ftu; exact ⟨a, vs, rfl, .inr (SqT.fz h1), h2⟩
end

/-- sizes that the machine bears -/
def szOk (n : Nat) : Bool := decide (n ≤ sizeLine)
def addD : D → D → R D
  | .int i, .int j => .ok (.int (i + j))
  | .str x, .str y => if szOk (x.length + y.length) = true then .ok (.str (x ++ y)) else .stk
  | .tup x, .tup y => if szOk (x.length + y.length) = true then .ok (.tup (x ++ y)) else .stk
  | .lst x, .lst y => if szOk (x.length + y.length) = true then .ok (.lst (x ++ y)) else .stk
  | _, _ => .stk
def subD : D → D → R D
  | .int i, .int j => .ok (.int (i - j))
  | _, _ => .stk
/-- either factor is small, or both are of at most 2 ^ 26 bits -/
def mulOk (i j : Int) : Bool := decide (i.natAbs < 2 ^ 64) || decide (j.natAbs < 2 ^ 64) || decide (i.natAbs.log2 < 2 ^ 26 - 8 ∧ j.natAbs.log2 < 2 ^ 26 - 8)
/-- a text as many times as told -/
def repS (k : Int) (x : Str) : Str := if k < 1 then Str.empty else if (k == 1 || x.length == 0) = true then x else ⟨(List.replicate k.toNat x.cps).foldl (· ++ ·) #[]⟩
def mulD : D → D → R D
  | .int i, .int j => if mulOk i j = true then .ok (.int (i * j)) else .stk
  | .lst x, .int k => if k < 2 ^ 20 ∧ -(2 ^ 20) < k ∧ szOk (x.length * k.toNat) = true then .ok (.lst (List.replicate k.toNat x).flatten) else .stk
  | .str x, .int k => if k < 2 ^ 20 ∧ -(2 ^ 20) < k ∧ szOk (x.length * k.toNat) = true then .ok (.str (repS k x)) else .stk
  | .tup x, .int k => if x.isEmpty = false ∧ -(2 ^ 20) < k ∧ k ≤ 1000 ∧ x.length ≤ 1000 then .ok (.tup (List.replicate k.toNat x).flatten) else .stk
  | _, _ => .stk
def smallPos (j : Int) : Bool := decide (0 < j ∧ j < 1073741824)
def fdivD : D → D → R D
  | .int i, .int j => if smallPos j = true then .ok (.int (i / j)) else .stk
  | _, _ => .stk
def modD : D → D → R D
  | .int i, .int j => if 0 < j then .ok (.int (i % j)) else .stk
  | _, _ => .stk
def shOk (i j : Int) : Bool := decide (0 ≤ j ∧ j ≤ 1000000 ∧ i.natAbs < 2 ^ 64)
def shlD : D → D → R D
  | .int i, .int j => if shOk i j = true then .ok (.int (i * 2 ^ j.toNat)) else .stk
  | _, _ => .stk
def shrD : D → D → R D
  | .int i, .int j => if 0 ≤ j then .ok (.int (i / 2 ^ j.toNat)) else .stk
  | _, _ => .stk
def andD : D → D → R D
  | .int i, .int j => .ok (.int (Builtin.bitAnd i j))
  | _, _ => .stk
def xorD : D → D → R D
  | .int i, .int j => .ok (.int (Builtin.bitXor i j))
  | _, _ => .stk
theorem mulOk_ok {i j : Int} (h : mulOk i j = true) : IntMulOk i j := by
  unfold mulOk at h
  simp only [Bool.or_eq_true, decide_eq_true_eq] at h
  rcases h with (h | h) | ⟨h1, h2⟩
  · exact IntMulOk.of_left (intBits_le_64 (by omega) (by omega))
  · exact IntMulOk.of_right (intBits_le_64 (by omega) (by omega))
  · have b : ∀ x : Int, Builtin.Int.intBits x ≤ x.natAbs.log2 + 1 := fun x => by
      unfold Builtin.Int.intBits
      split <;> omega
    have h3 := b i
    have h4 := b j
    have e : bitsLine = 134217728 := by decide
    unfold IntMulOk
    intro z
    rw [Bool.and_eq_true] at z
    have z2 := z.2
    unfold Builtin.Int.intTooBig at z2
    have z3 := of_decide_eq_true z2
    rw [e] at z3
    omega
section
variable {X : Cx}
theorem od_int {f : Value → Value → Sem Value} {g : D → D → R D} {C : Int → Int → Prop} {h : Int → Int → Int} (ho : OpR X f (rI C fun i j => .int (h i j))) (hg : ∀ x y z, g x y = .ok z → ∃ i j, x = .int i ∧ y = .int j ∧ z = .int (h i j) ∧ C i j) : OpR X f (rD X.K g) := by
  intro pins s σ H x y v u Q I rx ry ⟨P, dx, dy, dz, hm, r1, r2, e, out⟩
  obtain ⟨i, j, rfl, rfl, rfl, c⟩ := hg dx dy dz e
  obtain rfl := r1.int
  obtain rfl := r2.int
  exact ho pins s σ H _ _ v u Q I rx ry ⟨i, j, rfl, rfl, c, out.int⟩
theorem od_sub : OpR X (binaryOp .Sub) (rD X.K subD) := od_int (C := fun _ _ => True) (h := fun i j => i - j) (fun pins s σ H x y v u Q I rx ry ⟨i, j, e1, e2, _, q⟩ => op_sub pins s σ H x y v u Q I rx ry ⟨i, j, e1, e2, q⟩) fun x y z e => by
  cases x <;> cases y <;> simp only [subD, R.ok.injEq, reduceCtorEq] at e
  exact ⟨_, _, rfl, rfl, e.symm, trivial⟩
theorem od_and : OpR X (binaryOp .BitAnd) (rD X.K andD) := od_int (C := fun _ _ => True) (h := Builtin.bitAnd) (fun pins s σ H x y v u Q I rx ry ⟨i, j, e1, e2, _, q⟩ => op_and pins s σ H x y v u Q I rx ry ⟨i, j, e1, e2, q⟩) fun x y z e => by
  cases x <;> cases y <;> simp only [andD, R.ok.injEq, reduceCtorEq] at e
  exact ⟨_, _, rfl, rfl, e.symm, trivial⟩
theorem od_xor : OpR X (binaryOp .BitXor) (rD X.K xorD) := od_int (C := fun _ _ => True) (h := Builtin.bitXor) (fun pins s σ H x y v u Q I rx ry ⟨i, j, e1, e2, _, q⟩ => op_xor pins s σ H x y v u Q I rx ry ⟨i, j, e1, e2, q⟩) fun x y z e => by
  cases x <;> cases y <;> simp only [xorD, R.ok.injEq, reduceCtorEq] at e
  exact ⟨_, _, rfl, rfl, e.symm, trivial⟩
theorem od_fdiv : OpR X (binaryOp .FloorDiv) (rD X.K fdivD) := od_int op_fdiv fun x y z e => by
  cases x <;> cases y <;> simp only [fdivD, R.ok.injEq, reduceCtorEq] at e
  split at e
  · rename_i c; cases e; exact ⟨_, _, rfl, rfl, rfl, by unfold smallPos at c; have c := of_decide_eq_true c; exact c⟩
  · cases e
theorem od_mod : OpR X (binaryOp .Mod) (rD X.K modD) := od_int op_mod fun x y z e => by
  cases x <;> cases y <;> simp only [modD, R.ok.injEq, reduceCtorEq] at e
  split at e
  · rename_i c; cases e; exact ⟨_, _, rfl, rfl, rfl, c⟩
  · cases e
theorem od_shl : OpR X (binaryOp .LShift) (rD X.K shlD) := od_int op_shl fun x y z e => by
  cases x <;> cases y <;> simp only [shlD, R.ok.injEq, reduceCtorEq] at e
  split at e
  · rename_i c; cases e; exact ⟨_, _, rfl, rfl, rfl, by unfold shOk at c; have c := of_decide_eq_true c; exact c⟩
  · cases e
theorem od_shr : OpR X (binaryOp .RShift) (rD X.K shrD) := od_int op_shr fun x y z e => by
  cases x <;> cases y <;> simp only [shrD, R.ok.injEq, reduceCtorEq] at e
  split at e
  · rename_i c; cases e; exact ⟨_, _, rfl, rfl, rfl, c⟩
  · cases e
theorem od_add : OpR X (binaryOp .Add) (rD X.K addD) := by
  intro pins s σ H x y v u Q I rx ry ⟨P, dx, dy, dz, hm, r1, r2, e, out⟩
  cases dx <;> cases dy <;> simp only [addD, R.ok.injEq, reduceCtorEq] at e
  · subst e
    obtain rfl := r1.int
    obtain rfl := r2.int
    exact op_add pins s σ H _ _ v u Q I rx ry ⟨_, _, rfl, rfl, out.int⟩
  · split at e
    · rename_i c; cases e
      obtain rfl := r1.str
      obtain rfl := r2.str
      exact op_add_str pins s σ H _ _ v u Q I rx ry ⟨_, _, rfl, rfl, of_decide_eq_true c, out.str⟩
    · cases e
  · split at e
    · rename_i c; cases e
      obtain ⟨a, vs, rfl, h1, h2⟩ := r1.tup
      obtain ⟨b, ws, rfl, h3, h4⟩ := r2.tup
      refine op_catA pins s σ H _ _ v u Q I rx ry ⟨a, b, vs, ws, rfl, rfl, SqT.of h1, SqT.of h3, by rw [h2.length, h4.length]; exact of_decide_eq_true c, fun z => ?_, fun _ z => ?_, fun _ _ p hp => out.newT hm (h2.append h4) hp⟩
      · subst z
        have z := h2.length
        have z := List.length_eq_zero_iff.mp (show _ = 0 from z.symm)
        subst z
        rw [List.nil_append] at out
        exact out.flat (Rep.tup_of h3 h4) rfl
      · subst z
        have z := h4.length
        have z := List.length_eq_zero_iff.mp (show _ = 0 from z.symm)
        subst z
        rw [List.append_nil] at out
        exact out.flat (Rep.tup_of h1 h2) rfl
    · cases e
  · split at e
    · rename_i c; cases e
      obtain ⟨a, vs, rfl, h1, h2⟩ := r1.lst
      obtain ⟨b, ws, rfl, h3, h4⟩ := r2.lst
      exact op_cat pins s σ H _ _ v u Q I rx ry ⟨a, b, vs, ws, rfl, rfl, h1, h3, by rw [h2.length, h4.length]; exact of_decide_eq_true c, fun p hp => out.newL hm (h2.append h4) hp⟩
    · cases e
end
end Y

set_option Elab.async false
set_option linter.all false
set_option maxRecDepth 100000
namespace Y
open PySem PySem.Spec PyProof.Rows L2

section
open PySem.AutoSeq1 (wpAny_loadPart')
theorem tuple_mulS (l : Addr) (items : Array Value) (n : Nat) (dd : Option Addr) (sl : Array (Option Value)) (x : Int) (u : Tok) (c0 : (decide (x < -(2 ^ 63)) || decide (x ≥ 2 ^ 63)) = false) (c1 : (items.isEmpty || x == 1) = true) :
    Meets (Builtin.«tuple.__mul__» ⟨[.ref l, .int x u], []⟩) (fun _ R s => s.heap.get? l = some { cls := .type "tuple", dict := dd, data := .seq items n, slots := sl } ∧
      R (.ok (.ret (Value.ref l))) s) :=
  .of_wp fun prog w A R s h => by
    obtain ⟨hp, g, d, tk, os⟩ := s
    obtain ⟨hl, h⟩ := h
    have f1 := AutoSeq1.idx_int
    wp_walk using wpAny_loadPart' hl
    repeat (first
      | (refine wpAny_ite_false (decide_eq_false (by rw [c0]; exact Bool.false_ne_true)) ?_; wp_walk using wpAny_loadPart' hl)
      | (refine wpAny_ite_true (decide_eq_true c1) ?_; wp_walk using wpAny_loadPart' hl))
    exact ⟨_, rfl, h⟩
theorem tuple_mulE (l : Addr) (items : Array Value) (n : Nat) (dd : Option Addr) (sl : Array (Option Value)) (x : Int) (u : Tok) (c0 : (decide (x < -(2 ^ 63)) || decide (x ≥ 2 ^ 63)) = false) (c1 : (items.isEmpty || x == 1) = false) (c2 : (decide (x ≤ 0) || items.isEmpty) = true) :
    Meets (Builtin.«tuple.__mul__» ⟨[.ref l, .int x u], []⟩) (fun _ R s => s.heap.get? l = some { cls := .type "tuple", dict := dd, data := .seq items n, slots := sl } ∧
      R (.ok (.ret (Value.ref s.heap.objs.size))) { s with heap := s.heap.push { cls := Value.type "tuple", data := Data.seq #[] }, toks := s.toks }) :=
  .of_wp fun prog w A R s h => by
    obtain ⟨hp, g, d, tk, os⟩ := s
    obtain ⟨hl, h⟩ := h
    have f1 := AutoSeq1.idx_int
    wp_walk using wpAny_loadPart' hl
    repeat (first
      | (refine wpAny_ite_false (decide_eq_false (by rw [c0]; exact Bool.false_ne_true)) ?_; wp_walk using wpAny_loadPart' hl)
      | (refine wpAny_ite_false (decide_eq_false (by rw [c1]; exact Bool.false_ne_true)) ?_; wp_walk using wpAny_loadPart' hl)
      | (refine wpAny_ite_true (decide_eq_true c2) ?_; wp_walk using wpAny_loadPart' hl))
    exact ⟨_, rfl, h⟩
end
/-- a tuple times an int: once is the tuple itself -/
theorem op_repT1 {X : Cx} : OpR X (binaryOp .Mult) (fun x y H Q => ∃ l xs, x = .ref l ∧ y = .int 1 ∧ SqT X.K H l xs ∧ Q (.ref l) H) := by
  intro pins s σ H x y v u Q I rx ry h
  obtain ⟨l, xs, rfl, rfl, hT, q⟩ := h
  cases rx
  obtain ⟨t, rfl⟩ := ry
  obtain ⟨its, r, ⟨⟨cls, dd, data, sl⟩, ho, hc, n, hd⟩, hs⟩ := I.tuple hT
  simp only at hc hd
  subst hc hd
  have c0 : (decide ((1 : Int) < -(2 ^ 63)) || decide ((1 : Int) ≥ 2 ^ 63)) = false := by decide
  refine wpAny_binaryOp_repeat_ref (T := "tuple") (U := "int") (by decide) ⟨_, ho, rfl⟩ (fun s' => typeIs_int s' 1 t) noFill_tuple_mul F.fills_int_mul F.slot_int_rmul repeat_tuple F.slot_int_index.lookup
    (call_meets F.slot_int_rmul (typeIs_int s 1 t) F.entry_int_rmul (F.args_int_rmul_2 _ _) (int_rmul_tuple 1 t l its.toArray n dd sl)
      ⟨ho, rfl, ⟨_, ho, rfl⟩, call_meets F.slot_tuple_mul ⟨_, ho, rfl⟩ F.entry_tuple_mul (F.args_tuple_mul_2 _ _) (tuple_mulS l its.toArray n dd sl 1 t c0 (by simp)) ⟨ho, ?_⟩⟩)
  exact ⟨.ref l, H, I, rfl, q⟩
/-- no time or fewer: an empty tuple -/
theorem op_repT0 {X : Cx} : OpR X (binaryOp .Mult) (fun x y H Q => ∃ l k xs, x = .ref l ∧ y = .int k ∧ SqT X.K H l xs ∧ xs ≠ [] ∧ k ≤ 0 ∧ -(2 ^ 20) < k ∧ ∀ p, H p = none → Q (.ref p) (upd H p (.tup []))) := by
  intro pins s σ H x y v u Q I rx ry h
  obtain ⟨l, k, xs, rfl, rfl, hT, hne, h1, h2, q⟩ := h
  cases rx
  obtain ⟨t, rfl⟩ := ry
  obtain ⟨its, r, ⟨⟨cls, dd, data, sl⟩, ho, hc, n, hd⟩, hs⟩ := I.tuple hT
  simp only at hc hd
  subst hc hd
  have hi : its.toArray.isEmpty = false := by
    cases its with
    | nil => exact absurd (List.eq_nil_of_length_eq_zero r.length) hne
    | cons a b => rfl
  have c0 : (decide (k < -(2 ^ 63)) || decide (k ≥ 2 ^ 63)) = false := by
    rw [decide_eq_false (by omega), decide_eq_false (by omega)] <;> rfl
  have c1 : (its.toArray.isEmpty || k == 1) = false := by
    rw [hi, Bool.false_or]
    exact beq_eq_false_iff_ne.mpr (by omega)
  have c2 : (decide (k ≤ 0) || its.toArray.isEmpty) = true := by
    rw [decide_eq_true h1, Bool.true_or]
  refine wpAny_binaryOp_repeat_ref (T := "tuple") (U := "int") (by decide) ⟨_, ho, rfl⟩ (fun s' => typeIs_int s' k t) noFill_tuple_mul F.fills_int_mul F.slot_int_rmul repeat_tuple F.slot_int_index.lookup
    (call_meets F.slot_int_rmul (typeIs_int s k t) F.entry_int_rmul (F.args_int_rmul_2 _ _) (int_rmul_tuple k t l its.toArray n dd sl)
      ⟨ho, rfl, ⟨_, ho, rfl⟩, call_meets F.slot_tuple_mul ⟨_, ho, rfl⟩ F.entry_tuple_mul (F.args_tuple_mul_2 _ _) (tuple_mulE l its.toArray n dd sl k t c0 c1 c2) ⟨ho, ?_⟩⟩)
  refine ⟨.ref s.heap.objs.size, _, I.laid (t' := s.toks) (o := .tup []) (fun b ob q => Heap.get?_push_of_some _ q) (Nat.le_refl _) ?_, rfl, q _ (I.hok.fresh (Nat.le_refl _))⟩
  exact ⟨Nat.zero_le _, [], .nil, IsTup.new _ _⟩
theorem rep_all {K : PySem.W.Frag} {H : Hp} {P : Pr} {ds : List D} {vs : List V} (h : Reps K H ds P vs) : ∀ k : Nat, Reps K H (List.replicate k ds).flatten P (List.replicate k vs).flatten
  | 0 => Reps.nil
  | k + 1 => by rw [List.replicate_succ, List.replicate_succ, List.flatten_cons, List.flatten_cons]; exact h.append (rep_all h k)
noncomputable instance : DecidableEq (List D) := fun _ _ => Classical.propDecidable _
noncomputable instance : DecidableEq D := fun _ _ => Classical.propDecidable _
section
variable {X : Cx}
theorem repS_len (k : Int) (x : Str) : (⟨(List.replicate k.toNat x.cps).foldl (· ++ ·) #[]⟩ : Str).length = x.length * k.toNat := by
  show Array.size _ = _
  have h : ∀ (m : Nat) (a : Array Nat), ((List.replicate m x.cps).foldl (· ++ ·) a).size = a.size + x.cps.size * m := by
    intro m
    induction m with
    | zero => intro a; simp
    | succ m ih => intro a; rw [List.replicate_succ, List.foldl_cons, ih, Array.size_append, Nat.mul_succ]; omega
  rw [h, Array.size_empty, Nat.zero_add]
  rfl
/-- a text times an int -/
theorem op_repS : OpR X (binaryOp .Mult) (fun x y H Q => ∃ i k, x = .str i ∧ y = .int k ∧ -(2 ^ 20) < k ∧ k < 2 ^ 20 ∧ i.length * k.toNat ≤ sizeLine ∧ Q (.str (repS k i)) H) := by
  intro pins s σ H x y v u Q I rx ry h
  obtain ⟨i, k, rfl, rfl, h1, h2, hz, q⟩ := h
  obtain ⟨t, rfl⟩ := rx
  obtain ⟨t', rfl⟩ := ry
  have hs : sizeLine ≤ 2 ^ 40 := by decide
  refine PySem.P.mul_str ?_ (fun c _ => ?_) (fun _ _ => decide_eq_false (by omega)) ?_
  · rw [decide_eq_false (by omega), decide_eq_false (by omega)]; rfl
  · have e : ((i.length * k.toNat : Nat) : Int) = (i.length : Int) * k := by rw [Int.natCast_mul, Int.toNat_of_nonneg (by omega)]
    have := (Int.le_ediv_iff_mul_le (a := (i.length : Int)) (b := 2 ^ 63 - 1) (c := k) (by omega)).mpr (by rw [← e]; omega)
    omega
  · unfold repS at q
    by_cases c1 : k < 1
    · rw [if_pos c1] at q ⊢
      exact ⟨by decide, ⟨.str _, H, I.tok _, ⟨_, rfl⟩, q⟩⟩
    · rw [if_neg c1] at q ⊢
      by_cases c2 : (k == 1 || i.length == 0) = true
      · rw [if_pos c2] at q ⊢
        exact ⟨.str _, H, I, ⟨_, rfl⟩, q⟩
      · rw [if_neg c2] at q ⊢
        exact ⟨by rw [repS_len]; exact hz, ⟨.str _, H, I.tok _, ⟨_, rfl⟩, q⟩⟩
theorem od_mul : OpR X (binaryOp .Mult) (rD X.K mulD) := by
  intro pins s σ H x y v u Q I rx ry ⟨P, dx, dy, dz, hm, r1, r2, e, out⟩
  cases dx <;> cases dy <;> simp only [mulD, R.ok.injEq, reduceCtorEq] at e
  case int.int =>
    split at e
    · rename_i c; cases e
      obtain rfl := r1.int
      obtain rfl := r2.int
      obtain ⟨t, rfl⟩ := rx
      obtain ⟨t', rfl⟩ := ry
      exact mul_int ⟨.int _, H, I.tok _, ⟨_, rfl⟩, out.int⟩ (mulOk_ok c)
    · cases e
  case str.int =>
    split at e
    · rename_i c; cases e
      obtain rfl := r1.str
      obtain rfl := r2.int
      exact op_repS pins s σ H _ _ v u Q I rx ry ⟨_, _, rfl, rfl, by omega, by omega, of_decide_eq_true c.2.2, out.str⟩
    · cases e
  case tup.int =>
    split at e
    · rename_i c; cases e
      obtain ⟨a, vs, rfl, h1, h2⟩ := r1.tup
      obtain rfl := r2.int
      rename_i ds k
      have hne : vs ≠ [] := fun z => by
        have z2 := h2.length
        rw [z] at z2
        have z3 := List.length_eq_zero_iff.mp z2.symm
        rw [z3] at c
        exact absurd c.1 (by decide)
      by_cases c1 : k = 1
      · subst c1
        have e1 : (List.replicate (1 : Int).toNat ds).flatten = ds := by
          show ds ++ [] = ds
          exact List.append_nil _
        rw [e1] at out
        exact op_repT1 pins s σ H _ _ v u Q I rx ry ⟨a, vs, rfl, rfl, SqT.of h1, out.flat (Rep.tup_of h1 h2) rfl⟩
      · by_cases c2 : k ≤ 0
        · have e1 : (List.replicate k.toNat ds).flatten = [] := by
            have : k.toNat = 0 := by omega
            rw [this]; rfl
          rw [e1] at out
          exact op_repT0 pins s σ H _ _ v u Q I rx ry ⟨a, _, vs, rfl, rfl, SqT.of h1, hne, c2, c.2.1, fun p hp => out.newT hm Reps.nil hp⟩
        · exact op_repT pins s σ H _ _ v u Q I rx ry ⟨a, _, vs, rfl, rfl, SqT.of h1, hne, by omega, c.2.2.1, by rw [h2.length]; exact c.2.2.2, fun p hp => out.newT hm (rep_all h2 _) hp⟩
    · cases e
  case lst.int =>
    split at e
    · rename_i c
      have c : _ ∧ _ ∧ _ := c
      cases e
      obtain ⟨a, vs, rfl, h1, h2⟩ := r1.lst
      obtain rfl := r2.int
      exact op_rep pins s σ H _ _ v u Q I rx ry ⟨a, _, vs, rfl, rfl, h1, by omega, by omega, by rw [h2.length]; exact of_decide_eq_true c.2.2, fun p hp => out.newL hm (rep_all h2 _) hp⟩
    · cases e
end

mutual
def toPy : D → PyData
  | .non => .none
  | .bl b => .bool b
  | .int i => .int i
  | .str x => .str x
  | .tup ds => .tuple (toPys ds)
  | .lst ds => .list (toPys ds)
  | .arg ns => .list (ns.map .int)
  | .dik _ _ => .dict []
  | .dit _ _ => .dict []
  | .ftu ds => .tuple (toPys ds)
  | .tab _ _ => .dict []
def toPys : List D → List PyData
  | [] => []
  | d :: ds => toPy d :: toPys ds
end
def dOk (d : D) : Bool := SeqAt.shaped (toPy d)
def eqP (x y : D) : Bool := PyData.eqv (toPy x) (toPy y)
theorem dp_ints {K : PySem.W.Frag} {H : Hp} : ∀ ns : List Int, DpAll K H (ns.map V.int) (ns.map PyData.int)
  | [] => .nil
  | n :: ns => .cons (.int n) (dp_ints ns)
mutual
theorem Rep.dp {K : PySem.W.Frag} {H : Hp} : ∀ (d : D) {P : Pr} {v : V}, (toPy d).canLay0 = true → Rep K H d P v → Dp K H v (toPy d)
  | .non, _, _, _, h => by unfold Rep at h; subst h; exact .non
  | .bl b, _, _, _, h => by unfold Rep at h; subst h; exact .bl b
  | .int i, _, _, _, h => by unfold Rep at h; subst h; exact .int i
  | .str i, _, _, _, h => by unfold Rep at h; subst h; exact .str i
  | .tup ds, P, v, c, h => by
    unfold Rep at h
    obtain ⟨a, vs, rfl, h1, h2⟩ := h
    unfold toPy at c ⊢
    exact .tup (SqT.of h1) (Reps.dp ds (by simpa [PyData.canLay0] using c) h2)
  | .lst ds, P, v, c, h => by
    unfold Rep at h
    obtain ⟨a, vs, rfl, _, h1, h2⟩ := h
    unfold toPy at c ⊢
    exact .lst (SqL.of h1) (Reps.dp ds (by simpa [PyData.canLay0] using c) h2)
  | .arg ns, P, v, c, h => by
    unfold Rep at h
    unfold toPy
    obtain ⟨a, rfl, h⟩ := h
    rcases h with ⟨_, h⟩ | h
    · exact .lst (.inl h) (dp_ints ns)
    · refine .lst (.inr ?_) (dp_ints ns)
      rcases h with h | h
      · rcases h with e | ⟨o, e⟩ <;> cases e
      · exact h
  | .dik _ _, _, _, c, _ => by simp [toPy, PyData.canLay0] at c
  | .dit _ _, _, _, c, _ => by simp [toPy, PyData.canLay0] at c
  | .tab _ _, _, _, c, _ => by simp [toPy, PyData.canLay0] at c
  | .ftu ds, P, v, c, h => by
    unfold Rep at h
    obtain ⟨a, vs, o, rfl, h1, _, h2⟩ := h
    unfold toPy at c ⊢
    exact .tup (SqT.fz h1) (Reps.dp ds (by simpa [PyData.canLay0] using c) h2)
theorem Reps.dp {K : PySem.W.Frag} {H : Hp} : ∀ (ds : List D) {P : Pr} {vs : List V}, PyData.canLayAll0 (toPys ds) = true → Reps K H ds P vs → DpAll K H vs (toPys ds)
  | [], _, _, _, h => by rw [h.nil_iff]; exact .nil
  | d :: ds, P, vs, c, h => by
    obtain ⟨v, ws, rfl, h1, h2⟩ := h.cons_iff
    unfold toPys at c ⊢
    have c := Bool.and_eq_true_iff.mp (show (PyData.canLay0 (toPy d) && PyData.canLayAll0 (toPys ds)) = true by simpa [PyData.canLayAll0] using c)
    exact .cons (Rep.dp d c.1 h1) (Reps.dp ds c.2 h2)
end
theorem RepW.dp {K : PySem.W.Frag} {H : Hp} {d : D} {P : Pr} {v : V} (c : dOk d = true) (h : RepW K H d P v) : Dp K H v (toPy d) := by
  have c := SeqAt.canLay_of_shaped c
  cases d with
  | lst ds =>
    obtain ⟨a, vs, rfl, h1, h2⟩ := h
    unfold toPy at c ⊢
    exact .lst (SqL.of h1) (Reps.dp ds (by simpa [PyData.canLay0] using c) h2)
  | arg ns =>
    obtain ⟨a, rfl, h1⟩ := h
    unfold toPy
    exact .lst h1 (dp_ints ns)
  | dik _ _ => simp [toPy, PyData.canLay0] at c
  | dit _ _ => simp [toPy, PyData.canLay0] at c
  | tab _ _ => simp [toPy, PyData.canLay0] at c
  | non => exact Rep.dp (P := P) _ c h
  | bl _ => exact Rep.dp (P := P) _ c h
  | int _ => exact Rep.dp (P := P) _ c h
  | str _ => exact Rep.dp (P := P) _ c h
  | tup _ => exact Rep.dp (P := P) _ c h
  | ftu _ => exact Rep.dp (P := P) _ c h
def eqD (x y : D) : R D := if (dOk x && dOk y) = true then .ok (.bl (eqP x y)) else .stk
def neD (x y : D) : R D := if (dOk x && dOk y) = true then .ok (.bl (!eqP x y)) else .stk
def ltD : D → D → R D
  | .int i, .int j => .ok (.bl (decide (i < j)))
  | .str x, .str y => .ok (.bl (decide (x.cps.toList < y.cps.toList)))
  | _, _ => .stk
def leD : D → D → R D
  | .int i, .int j => .ok (.bl (decide (i ≤ j)))
  | _, _ => .stk
def gtD : D → D → R D
  | .int i, .int j => .ok (.bl (decide (j < i)))
  | _, _ => .stk
def geD : D → D → R D
  | .int i, .int j => .ok (.bl (decide (j ≤ i)))
  | _, _ => .stk
section
variable {K : PySem.W.Frag} {H : Hp} {P : Pr}
end
section
variable {X : Cx}
theorem od_eq (hu : X.A.units + 64 < cLine) : OpR X (compareOp .Eq) (rD X.K eqD) := by
  intro pins s σ H x y v u Q I rx ry ⟨P, dx, dy, dz, hm, r1, r2, e, out⟩
  unfold eqD at e
  split at e
  · rename_i c; cases e
    rw [Bool.and_eq_true] at c
    exact op_eqD hu pins s σ H x y v u Q I rx ry ⟨_, _, r1.dp c.1, r2.dp c.2, c.1, c.2, out.bl⟩
  · cases e
theorem od_ne (hu : X.A.units + 64 < cLine) : OpR X (compareOp .NotEq) (rD X.K neD) := by
  intro pins s σ H x y v u Q I rx ry ⟨P, dx, dy, dz, hm, r1, r2, e, out⟩
  unfold neD at e
  split at e
  · rename_i c; cases e
    rw [Bool.and_eq_true] at c
    exact op_neD hu pins s σ H x y v u Q I rx ry ⟨_, _, r1.dp c.1, r2.dp c.2, c.1, c.2, out.bl⟩
  · cases e
theorem od_cmp {op : CmpOp} {f : D → D → R D} {p : Int → Int → Bool} (ho : OpR X (compareOp op) (rI0 fun i j => .bl (p i j))) (hf : ∀ x y z, f x y = .ok z → ∃ i j, x = .int i ∧ y = .int j ∧ z = .bl (p i j)) : OpR X (compareOp op) (rD X.K f) := by
  intro pins s σ H x y v u Q I rx ry ⟨P, dx, dy, dz, hm, r1, r2, e, out⟩
  obtain ⟨i, j, rfl, rfl, rfl⟩ := hf _ _ _ e
  obtain rfl := r1.int
  obtain rfl := r2.int
  exact ho pins s σ H _ _ v u Q I rx ry ⟨_, _, rfl, rfl, out.bl⟩
theorem od_le : OpR X (compareOp .LtE) (rD X.K leD) := od_cmp op_le fun x y z e => by
  cases x <;> cases y <;> simp only [leD, R.ok.injEq, reduceCtorEq] at e
  exact ⟨_, _, rfl, rfl, e.symm⟩
theorem od_gt : OpR X (compareOp .Gt) (rD X.K gtD) := od_cmp op_gt fun x y z e => by
  cases x <;> cases y <;> simp only [gtD, R.ok.injEq, reduceCtorEq] at e
  exact ⟨_, _, rfl, rfl, e.symm⟩
theorem od_ge : OpR X (compareOp .GtE) (rD X.K geD) := od_cmp op_ge fun x y z e => by
  cases x <;> cases y <;> simp only [geD, R.ok.injEq, reduceCtorEq] at e
  exact ⟨_, _, rfl, rfl, e.symm⟩
theorem od_lt : OpR X (compareOp .Lt) (rD X.K ltD) := by
  intro pins s σ H x y v u Q I rx ry ⟨P, dx, dy, dz, hm, r1, r2, e, out⟩
  cases dx <;> cases dy <;> simp only [ltD, R.ok.injEq, reduceCtorEq] at e
  · subst e
    obtain rfl := r1.int
    obtain rfl := r2.int
    exact op_lt pins s σ H _ _ v u Q I rx ry ⟨_, _, rfl, rfl, out.bl⟩
  · subst e
    obtain rfl := r1.str
    obtain rfl := r2.str
    exact op_lt_str pins s σ H _ _ v u Q I rx ry ⟨_, _, rfl, rfl, out.bl⟩
theorem one_sign {a : Str} (h : a.length = 1) : a = ⟨#[a.cps.getD 0 0]⟩ := by
  refine Str.ext' ?_
  have h : a.cps.size = 1 := h
  apply Array.ext
  · simpa using h
  · intro i h1 h2
    have : i = 0 := by simp at h2; omega
    subst this
    simp [Array.getD, h]
end
end Y

set_option Elab.async false
set_option linter.all false
set_option maxRecDepth 100000
namespace Y
open PySem PySem.Spec PyProof.Rows L2

section
variable {X : Cx} {P0 : Pr} {O W : List Nat} {E : EK} {a b c : Expr} {ma mb mc : EM} {pos : Pos}
theorem ce_bin {op : Operator} {f : D → D → R D} (ho : OpR X (binaryOp op) (rD X.K f)) (ha : CEx X P0 O W E a ma) (hb : CEx X P0 O W E b mb) : CEx X P0 O W E (.BinOp a op b pos) (cOp f ma mb) := PE.imp (pe_op ho ha hb) tM_op
theorem ce_cmp {op : CmpOp} {f : D → D → R D} (ho : OpR X (compareOp op) (rD X.K f)) (ha : CEx X P0 O W E a ma) (hb : CEx X P0 O W E b mb) (hm : behindInMarks op b = false := by rfl) : CEx X P0 O W E (.Compare a [op] [b] pos) (cOp f ma mb) := PE.imp (pe_cmpR ho ha hb hm) tM_op
/-- a handle's truth -/
def truD : D → R Bool
  | .non => .ok false
  | .bl b => .ok b
  | .int i => .ok (i != 0)
  | .str x => if szOk x.length = true then .ok (x.length != 0) else .stk
  | .tup ds => .ok (!ds.isEmpty)
  | .lst ds => .ok (!ds.isEmpty)
  | .arg ns => .ok (!ns.isEmpty)
  | .dik _ _ => .stk
  | .dit _ _ => .stk
  | .ftu ds => .ok (!ds.isEmpty)
  | .tab _ _ => .stk
theorem truD_ok {K : PySem.W.Frag} {H : Hp} {P : Pr} {d : D} {v : V} {k : Bool} (h : truD d = .ok k) (r : RepW K H d P v) : TruV K v H k := by
  cases d <;> simp only [truD, R.ok.injEq, reduceCtorEq] at h
  · rw [r.non]; exact h.symm
  · rw [r.bl]; exact h.symm
  · rw [r.int]; exact h.symm
  · split at h
    · rename_i c; cases h
      rw [r.str]
      exact ⟨of_decide_eq_true c, by
        show (_ != _) = (_ != _)
        simp only [bne, Nat.beq_eq_true_eq]
        congr 1
        exact Bool.eq_iff_iff.mpr (by simp)⟩
    · cases h
  · obtain ⟨a, vs, rfl, h1, h2⟩ := r.tup
    refine .inr (.inl ⟨vs, SqT.of h1, ?_⟩)
    rw [← h]
    rename_i ds
    have := h2.length
    cases vs <;> cases ds <;> simp at this ⊢
  · obtain ⟨a, vs, rfl, h1, h2⟩ := r.lst
    refine .inl ⟨vs, SqL.of h1, ?_⟩
    rw [← h]
    rename_i ds
    have := h2.length
    cases vs <;> cases ds <;> simp at this ⊢
  · obtain ⟨a, rfl, h1⟩ := r.arg
    refine .inl ⟨_, h1, ?_⟩
    rw [← h]
    rename_i ns
    cases ns <;> rfl
  · obtain ⟨a, vs, o, rfl, h1, hdn, h2⟩ := r.ftu
    clear hdn
    refine .inr (.inl ⟨vs, SqT.fz h1, ?_⟩)
    rw [← h]
    rename_i ds
    have := h2.length
    cases vs <;> cases ds <;> simp at this ⊢
abbrev CT (X : Cx) (P0 : Pr) (O W : List Nat) (E : EK) (e : Expr) (m : BM) : Prop := PT X e (tMt X.K P0 O W E m)
def cTru (m : EM) : BM := fun ρ => do
  let (h, ρ1) ← m ρ
  let d ← (h.d ρ1).nox
  let b ← (truD d).nox
  pure (b, ρ1)
theorem ct_val (ha : CEx X P0 O W E a ma) (he : ∀ whole, isTrue a X.env whole = (do let v ← whole; standAt a.pos; holding [v] (truthy v)) := by intro _; rfl) : CT X P0 O W E a (cTru ma) := PT.imp (pt_truth ha he) fun σ H Q ⟨ρ, S, h⟩ =>
  ⟨ρ, S, h.of_bind.mono fun ⟨h1, ρ1⟩ q v H1 S1 k1 r1 => by
    obtain ⟨d, e1, q⟩ := q.of_nox
    obtain ⟨k, e2, q⟩ := q.of_nox
    exact ⟨k, truD_ok e2 (r1.d S1 e1), q H1 S1 k1⟩⟩
/-- a comparison as a test -/
def cBl (m : EM) : BM := fun ρ => do
  let (h, ρ1) ← m ρ
  let d ← h.v.nox
  match d with
  | .bl k => pure (k, ρ1)
  | _ => .stk
theorem tM_bl {m : EM} (σ : St) (H : Hp) (Q : Bool → Hp → Prop) (h : tMt X.K P0 O W E (cBl m) σ H Q) : tTest (tM X.K P0 O W E m) σ H Q := by
  obtain ⟨ρ, S, h⟩ := h
  refine ⟨ρ, S, h.of_bind.mono fun ⟨h1, ρ1⟩ q v H1 S1 k1 r1 => ?_⟩
  obtain ⟨d, e1, q⟩ := q.of_nox
  have r := r1.v e1
  cases d <;> first | (exact q.elim) | skip
  unfold Rep at r
  exact ⟨_, r, q H1 S1 k1⟩
theorem tTest_imp {t t' : TE} (i : ∀ σ H Q, t' σ H Q → t σ H Q) {σ : St} {H : Hp} {Q : Bool → Hp → Prop} (h : tTest t' σ H Q) : tTest t σ H Q := i σ H _ h
theorem ct_cmp {op : CmpOp} {f : D → D → R D} (ho : OpR X (compareOp op) (rD X.K f)) (ha : CEx X P0 O W E a ma) (hb : CEx X P0 O W E b mb) (hm : behindInMarks op b = false := by rfl) : CT X P0 O W E (.Compare a [op] [b] pos) (cBl (cOp f ma mb)) := PT.imp (pt_cmpR ho ha hb hm) fun σ H Q h => tTest_imp tM_op (tM_bl σ H Q h)
def cNotT (m : BM) : BM := fun ρ => do
  let (b, ρ1) ← m ρ
  pure (!b, ρ1)
theorem ct_not {m : BM} (h : CT X P0 O W E a m) : CT X P0 O W E (.UnaryOp .Not a pos) (cNotT m) := PT.imp (pt_not h) fun σ H Q ⟨ρ, S, h⟩ => ⟨ρ, S, h.of_bind.mono fun ⟨b, ρ1⟩ q => q⟩
abbrev CW (X : Cx) (P0 : Pr) (O W : List Nat) (E : EK) (e : Expr) (m : BM) : Prop := PW X e (tMt X.K P0 O W E m)
def cAndT (a b : BM) : BM := fun ρ => do
  let (k, ρ1) ← a ρ
  if k = true then b ρ1 else pure (false, ρ1)
def cOrT (a b : BM) : BM := fun ρ => do
  let (k, ρ1) ← a ρ
  if k = true then pure (true, ρ1) else b ρ1
theorem cw_and1 {m : BM} (h : CT X P0 O W E a m) : CW X P0 O W E (.BoolOp .And [a] pos) m := pw_and1 h
theorem cw_or1 {m : BM} (h : CT X P0 O W E a m) : CW X P0 O W E (.BoolOp .Or [a] pos) m := pw_or1 h
theorem cw_and {rest : List Expr} {m n : BM} (h : CT X P0 O W E a m) (h2 : CW X P0 O W E (.BoolOp .And (b :: rest) pos) n) : CW X P0 O W E (.BoolOp .And (a :: b :: rest) pos) (cAndT m n) := PW.imp (pw_and h h2) fun σ H Q ⟨ρ, S, h⟩ =>
  ⟨ρ, S, h.of_bind.mono fun ⟨k, ρ1⟩ q H1 S1 k1 => by
    cases k with
    | true => exact ⟨ρ1, S1, (q.keep k1).mono fun ⟨k2, ρ2⟩ q2 H2 S2 k3 => q2 H2 S2 (k1.trans k3)⟩
    | false => exact q H1 S1 k1⟩
theorem cw_or {rest : List Expr} {m n : BM} (h : CT X P0 O W E a m) (h2 : CW X P0 O W E (.BoolOp .Or (b :: rest) pos) n) : CW X P0 O W E (.BoolOp .Or (a :: b :: rest) pos) (cOrT m n) := PW.imp (pw_or h h2) fun σ H Q ⟨ρ, S, h⟩ =>
  ⟨ρ, S, h.of_bind.mono fun ⟨k, ρ1⟩ q H1 S1 k1 => by
    cases k with
    | false => exact ⟨ρ1, S1, (q.keep k1).mono fun ⟨k2, ρ2⟩ q2 H2 S2 k3 => q2 H2 S2 (k1.trans k3)⟩
    | true => exact q H1 S1 k1⟩
theorem ct_w {m : BM} (h : CW X P0 O W E a m) : CT X P0 O W E a m := h.pt
theorem HdR.then {K : PySem.W.Frag} {ρ : Env} {σ : St} {H H1 H2 : Hp} {hd : Hd} {v : V} (k : Keep W σ H H1) (r : HdR K P0 O H1 σ H2 hd v) : HdR K P0 O H σ H2 hd v := r.back k.some
def cAnd (a b : EM) : EM := fun ρ => do
  let (h, ρ1) ← a ρ
  let d ← (h.d ρ1).nox
  let k ← (truD d).nox
  if k = true then b ρ1 else pure (h, ρ1)
def cNot (m : EM) : EM := fun ρ => do
  let (h, ρ1) ← m ρ
  let d ← (h.d ρ1).nox
  let k ← (truD d).nox
  pure (.fr (.bl (!k)), ρ1)
theorem ce_one {op : BoolOp} (h : CEx X P0 O W E a ma) : CEx X P0 O W E (.BoolOp op [a] pos) ma := pe_one h
theorem ce_and {rest : List Expr} (h : CEx X P0 O W E a ma) (h2 : CEx X P0 O W E (.BoolOp .And (b :: rest) pos) mb) : CEx X P0 O W E (.BoolOp .And (a :: b :: rest) pos) (cAnd ma mb) := PE.imp (pe_andT h h2) fun σ H Q ⟨ρ, S, h⟩ =>
  ⟨ρ, S, h.of_bind.mono fun ⟨h1, ρ1⟩ q v H1 S1 k1 r1 => by
    obtain ⟨d, e1, q⟩ := q.of_nox
    obtain ⟨k, e2, q⟩ := q.of_nox
    refine ⟨k, truD_ok e2 (r1.d S1 e1), ?_⟩
    cases k with
    | true => exact ⟨ρ1, S1, (q.keep k1).mono fun ⟨h2, ρ2⟩ q2 w H2 S2 k2 r2 => q2 w H2 S2 (k1.trans k2) (r2.back k1.some)⟩
    | false => exact q v H1 S1 k1 r1⟩
theorem ce_not (h : CEx X P0 O W E a ma) : CEx X P0 O W E (.UnaryOp .Not a pos) (cNot ma) := PE.imp (pe_notT h) fun σ H Q ⟨ρ, S, h⟩ =>
  ⟨ρ, S, h.of_bind.mono fun ⟨h1, ρ1⟩ q v H1 S1 k1 r1 => by
    obtain ⟨d, e1, q⟩ := q.of_nox
    obtain ⟨k, e2, q⟩ := q.of_nox
    exact ⟨k, truD_ok e2 (r1.d S1 e1), (out_of S1 k1 q).bl⟩⟩
def cChain2 (g : D → D → R D) (c : EM) (h2 : Hd) : EM := fun ρ2 => do
  let (h3, ρ3) ← c ρ2
  let y ← (h2.d ρ3).nox
  let w ← (h3.d ρ3).nox
  let z ← (g y w).nox
  pure (.fr z, ρ3)
def cChain (f g : D → D → R D) (a b c : EM) : EM := fun ρ => do
  let (h1, ρ1) ← a ρ
  let (h2, ρ2) ← b ρ1
  let x ← (h1.d ρ2).nox
  let y ← (h2.d ρ2).nox
  let z ← (f x y).nox
  match z with
  | .bl k => if k = true then cChain2 g c h2 ρ2 else .ok (.fr (.bl false), ρ2)
  | _ => .stk
theorem tM_chain {f g : D → D → R D} (σ : St) (H : Hp) (Q : VK) (h : tM X.K P0 O W E (cChain f g ma mb mc) σ H Q) : tChain (rD X.K f) (rD X.K g) (tM X.K P0 O W E ma) (tM X.K P0 O W E mb) (tM X.K P0 O W E mc) σ H Q := by
  obtain ⟨ρ, S, h⟩ := h
  refine ⟨ρ, S, h.of_bind.mono fun ⟨h1, ρ1⟩ q x H1 S1 k1 r1 => ⟨ρ1, S1, (q.keep k1).of_bind.mono fun ⟨h2, ρ2⟩ q2 y H2 S2 k2 r2 => ?_⟩⟩
  obtain ⟨dx, e1, q3⟩ := q2.of_nox
  obtain ⟨dy, e2, q4⟩ := q3.of_nox
  obtain ⟨dz, e3, q5⟩ := q4.of_nox
  refine ⟨FA P0 O σ, dx, dy, dz, S2.dom, (r1.keep S1 k2).d S2 e1, r2.d S2 e2, e3, fun v H3 sm r fr => ?_⟩
  cases dz <;> first | (exact q5.elim) | skip
  rename_i bb
  unfold Rep at r
  refine ⟨bb, r, ?_⟩
  have k3 : Keep W σ H2 H3 := Keep.same sm
  have S3 := S2.same sm
  cases bb with
  | false =>
    refine (if_neg Bool.false_ne_true).mpr ?_
    exact (q5 : ∀ v H', _) (.bl false) H3 S3 ((k1.trans k2).trans k3) ⟨by unfold Rep; rfl, fun z => by cases z⟩
  | true =>
    have q5 : Res E W σ H1 (cChain2 g mc h2 ρ2) _ := q5
    unfold cChain2 at q5
    refine (if_pos rfl).mpr ⟨ρ2, S3, (q5.keep (k2.trans k3)).of_bind.mono fun ⟨h3, ρ3⟩ q6 w H4 S4 k4 r4 => ?_⟩
    obtain ⟨dy2, e5, q7⟩ := q6.of_nox
    obtain ⟨dw, e6, q8⟩ := q7.of_nox
    obtain ⟨du, e7, q9⟩ := q8.of_nox
    exact ⟨FA P0 O σ, dy2, dw, du, S4.dom, ((r2.keep S2 k3).keep S3 k4).d S4 e5, r4.d S4 e6, e7, out_of S4 (((k1.trans k2).trans k3).trans k4) q9⟩
theorem ce_chain {op op' : CmpOp} {f g : D → D → R D} (ho : OpR X (compareOp op) (rD X.K f)) (ho' : OpR X (compareOp op') (rD X.K g)) (ha : CEx X P0 O W E a ma) (hb : CEx X P0 O W E b mb) (hc : CEx X P0 O W E c mc)
    (hm : lastMarks [op, op'] [b, c] = false := by with_unfolding_all rfl) : CEx X P0 O W E (.Compare a [op, op'] [b, c] pos) (cChain f g ma mb mc) := PE.imp (pe_chain ho ho' ha hb hc hm) tM_chain
def cNeg (m : EM) : EM := fun ρ => do
  let (h, ρ1) ← m ρ
  let d ← h.v.nox
  match d with
  | .int i => pure (.fr (.int (-i)), ρ1)
  | _ => .stk
theorem ce_neg (h : CEx X P0 O W E a ma) : CEx X P0 O W E (.UnaryOp .USub a pos) (cNeg ma) := PE.imp (pe_un un_neg h) fun σ H Q ⟨ρ, S, h⟩ =>
  ⟨ρ, S, h.of_bind.mono fun ⟨h1, ρ1⟩ q v H1 S1 k1 r1 => by
    obtain ⟨d, e1, q⟩ := q.of_nox
    have r := r1.v e1
    cases d <;> first | (exact q.elim) | skip
    unfold Rep at r
    exact ⟨_, r, (out_of S1 k1 q).int⟩⟩
end
end Y

set_option Elab.async false
set_option linter.all false
set_option maxRecDepth 100000
namespace Y
open PySem PySem.Spec PyProof.Rows L2

def cNil : AM := fun ρ => .ok ([], ρ)
def cCons (a : EM) (as : AM) : AM := fun ρ => do
  let (h, ρ1) ← a ρ
  let (hs, ρ2) ← as ρ1
  pure (h :: hs, ρ2)
def vsOf : List Hd → R (List D)
  | [] => .ok []
  | h :: hs => do
    let d ← h.v.nox
    let ds ← vsOf hs
    pure (d :: ds)
def dsOf : List Hd → Env → R (List D)
  | [], _ => .ok []
  | h :: hs, ρ => do
    let d ← (h.d ρ).nox
    let ds ← dsOf hs ρ
    pure (d :: ds)
def RepWs (K : PySem.W.Frag) (H : Hp) : List D → Pr → List V → Prop
  | [], _, vs => vs = []
  | d :: ds, P, vs => ∃ v ws, vs = v :: ws ∧ RepW K H d P v ∧ RepWs K H ds P ws
theorem R.ok_of {α β : Type} {r : R α} {f : α → R β} {b : β} (h : (r >>= f) = .ok b) : ∃ a, r = .ok a ∧ f a = .ok b := by
  cases r with
  | ok a => exact ⟨a, rfl, h⟩
  | er c ds => cases h
  | stk => cases h
theorem R.nox_of {α : Type} {r : R α} {a : α} (h : r.nox = .ok a) : r = .ok a := by cases r <;> first | exact h | cases h
theorem RepWs.get1 {K : PySem.W.Frag} {H : Hp} {d : D} {P : Pr} {vs : List V} (h : RepWs K H [d] P vs) : ∃ v, vs = [v] ∧ RepW K H d P v := by
  obtain ⟨v, ws, rfl, h1, h2⟩ := h
  have h2 : ws = [] := h2
  subst h2
  exact ⟨v, rfl, h1⟩
theorem RepWs.get2 {K : PySem.W.Frag} {H : Hp} {d e : D} {P : Pr} {vs : List V} (h : RepWs K H [d, e] P vs) : ∃ v w, vs = [v, w] ∧ RepW K H d P v ∧ RepW K H e P w := by
  obtain ⟨v, ws, rfl, h1, h2⟩ := h
  obtain ⟨w, rfl, h3⟩ := RepWs.get1 h2
  exact ⟨v, w, rfl, h1, h3⟩
section
variable {K : PySem.W.Frag} {P0 : Pr} {O W : List Nat} {ρ : Env} {σ : St} {Hs H : Hp}
theorem HdRs.vs : ∀ {hs : List Hd} {vs : List V} {ds : List D}, HdRs K P0 O Hs σ H hs vs → vsOf hs = .ok ds → Reps K H ds (FA P0 O σ) vs
  | [], _, _, r, e => by cases e; have r : _ = [] := r; subst r; exact Reps.nil
  | h :: hs, _, _, ⟨v, ws, e, r1, r2⟩, q => by
    obtain ⟨d, e1, q⟩ := R.ok_of q
    obtain ⟨ds, e2, q⟩ := R.ok_of q
    cases q
    subst e
    exact Reps.cons (r1.v (R.nox_of e1)) (HdRs.vs r2 e2)
theorem HdRs.ds (S : Sim K P0 O W ρ σ H) : ∀ {hs : List Hd} {vs : List V} {ds : List D}, HdRs K P0 O Hs σ H hs vs → dsOf hs ρ = .ok ds → RepWs K H ds (FA P0 O σ) vs
  | [], _, _, r, e => by cases e; exact r
  | h :: hs, _, _, ⟨v, ws, e, r1, r2⟩, q => by
    obtain ⟨d, e1, q⟩ := R.ok_of q
    obtain ⟨ds, e2, q⟩ := R.ok_of q
    cases q
    subst e
    exact ⟨v, ws, rfl, r1.d S (R.nox_of e1), HdRs.ds S r2 e2⟩
end
section
variable {X : Cx} {P0 : Pr} {O W : List Nat} {E : EK} {a b c e : Expr} {es : List Expr} {ma mb mc : EM} {ms : AM} {pos : Pos}
abbrev CA (X : Cx) (P0 : Pr) (O W : List Nat) (E : EK) (es : List Expr) (m : AM) : Prop := PA X es (tMs X.K P0 O W E m)
theorem ca_nil : CA X P0 O W E [] cNil := PA.imp pa_nil fun σ H Q ⟨ρ, S, h⟩ => h [] H S .refl rfl
theorem ca_cons (h : CEx X P0 O W E e ma) (hs : CA X P0 O W E es ms) (hst : starEach (e :: es) X.env = (false, eval e X.env) :: starEach es X.env := by rfl) : CA X P0 O W E (e :: es) (cCons ma ms) := PA.imp (pa_cons h hs hst) fun σ H Q ⟨ρ, S, h⟩ =>
  ⟨ρ, S, h.of_bind.mono fun ⟨h1, ρ1⟩ q v H1 S1 k1 r1 => ⟨ρ1, S1, (q.keep k1).of_bind.mono fun ⟨hs, ρ2⟩ q2 vs H2 S2 k2 r2 => q2 _ H2 S2 (k1.trans k2) ⟨v, vs, rfl, r1.keep S1 k2, HdRs.back k1.some r2⟩⟩⟩
def cTup (m : AM) : EM := fun ρ => do
  let (hs, ρ1) ← m ρ
  let ds ← (vsOf hs).nox
  if szOk ds.length = true then pure (.fr (.tup ds), ρ1) else .stk
def cLst (m : AM) : EM := fun ρ => do
  let (hs, ρ1) ← m ρ
  let ds ← (vsOf hs).nox
  if szOk ds.length = true then pure (.fr (.lst ds), ρ1) else .stk
theorem ce_tup {x1} (h : CA X P0 O W E es ms) : CEx X P0 O W E (.Tuple es x1 pos) (cTup ms) := PE.imp (pe_tup h) fun σ H Q ⟨ρ, S, h⟩ =>
  ⟨ρ, S, h.of_bind.mono fun ⟨hs, ρ1⟩ q vs H1 S1 k1 r1 => by
    obtain ⟨ds, e1, q⟩ := q.of_nox
    have rr := HdRs.vs r1 e1
    by_cases c : szOk ds.length = true
    · rw [if_pos c] at q
      exact ⟨by rw [rr.length]; exact of_decide_eq_true c, fun p hp => (out_of S1 k1 q).newT S1.dom rr hp⟩
    · rw [if_neg c] at q
      exact q.elim⟩
theorem ce_lst (h : CA X P0 O W E es ms) : CEx X P0 O W E (.List es pos) (cLst ms) := PE.imp (pe_lst h) fun σ H Q ⟨ρ, S, h⟩ =>
  ⟨ρ, S, h.of_bind.mono fun ⟨hs, ρ1⟩ q vs H1 S1 k1 r1 => by
    obtain ⟨ds, e1, q⟩ := q.of_nox
    have rr := HdRs.vs r1 e1
    by_cases c : szOk ds.length = true
    · rw [if_pos c] at q
      exact ⟨by rw [rr.length]; exact of_decide_eq_true c, fun p hp => (out_of S1 k1 q).newL S1.dom rr hp⟩
    · rw [if_neg c] at q
      exact q.elim⟩

def cCall (f : List D → R D) (m : AM) : EM := fun ρ => do
  let (hs, ρ1) ← m ρ
  let ds ← (dsOf hs ρ1).nox
  let z ← (f ds).nox
  pure (.fr z, ρ1)
def rDs (K : PySem.W.Frag) (f : List D → R D) : List V → Hp → VK → Prop := fun xs H Q => ∃ (P : Pr) (ds : List D) (dz : D), (∀ b, P b → isMut (H b)) ∧ RepWs K H ds P xs ∧ f ds = .ok dz ∧ Out K P H dz Q
theorem tM_call {f : List D → R D} (σ : St) (H : Hp) (Q : VK) (h : tM X.K P0 O W E (cCall f ms) σ H Q) : tCB (rDs X.K f) (tMs X.K P0 O W E ms) σ H Q := by
  obtain ⟨ρ, S, h⟩ := h
  refine ⟨ρ, S, h.of_bind.mono fun ⟨hs, ρ1⟩ q vs H1 S1 k1 r1 => ?_⟩
  obtain ⟨ds, e1, q⟩ := q.of_nox
  obtain ⟨z, e2, q⟩ := q.of_nox
  exact ⟨FA P0 O σ, ds, z, S1.dom, HdRs.ds S1 r1 e1, e2, out_of S1 k1 q⟩
theorem ce_callB {f : List D → R D} {id : String} {x : Str} {p : Pos} (hc : CallR X (.builtin id) (rDs X.K f)) (hm : X.mg x = none) (hv : bootBuiltins x = some (.builtin id)) (ha : CA X P0 O W E (e :: es) ms) (hg : Gl X x := by rfl) (hn : x ≠ "__name__" := by decide) (hdb : (x == ("__debug__" : Str)) = false := by decide)
    (he : starEach (e :: es) X.env = (false, eval e X.env) :: starEach es X.env := by rfl) (hpl : (backTo pos (starEach es X.env)).any (·.1) = false := by rfl) : CEx X P0 O W E (.Call (.Name x p) (e :: es) [] pos) (cCall f ms) := PE.imp (pe_callB hc hg hm hv ha hn hdb he hpl) tM_call
theorem ce_callT {f : List D → R D} {T : String} {x : Str} {p : Pos} (hc : CallR X (.type T) (rDs X.K f)) (hm : X.mg x = none) (hv : bootBuiltins x = some (.type T)) (ha : CA X P0 O W E (e :: es) ms) (hg : Gl X x := by rfl) (hn : x ≠ "__name__" := by decide) (hdb : (x == ("__debug__" : Str)) = false := by decide)
    (he : starEach (e :: es) X.env = (false, eval e X.env) :: starEach es X.env := by rfl) (hpl : (backTo pos (starEach es X.env)).any (·.1) = false := by rfl) : CEx X P0 O W E (.Call (.Name x p) (e :: es) [] pos) (cCall f ms) := PE.imp (pe_callTy hc hg hm hv ha hn hdb he hpl) tM_call
def lenD : List D → R D
  | [.str x] => if szOk x.length = true then .ok (.int x.length) else .stk
  | [.tup ds] => .ok (.int ds.length)
  | [.lst ds] => .ok (.int ds.length)
  | [.arg ns] => .ok (.int ns.length)
  | [.ftu ds] => .ok (.int ds.length)
  | _ => .stk
def max2D : List D → R D
  | [.int i, .int j] => .ok (.int (max i j))
  | _ => .stk
def min2D : List D → R D
  | [.int i, .int j] => .ok (.int (min i j))
  | _ => .stk
def divmodD : List D → R D
  | [.int i, .int j] => if smallPos j = true then .ok (.tup [.int (i / j), .int (i % j)]) else .stk
  | _ => .stk
/-- the ints of a list -/
def intsOf : List D → Option (List Int)
  | [] => some []
  | .int i :: ds => (intsOf ds).map (i :: ·)
  | _ => none
def blsOf : List D → Option (List Bool)
  | [] => some []
  | .bl i :: ds => (blsOf ds).map (i :: ·)
  | _ => none
def strsOf : List D → Option (List Str)
  | [] => some []
  | .str i :: ds => (strsOf ds).map (i :: ·)
  | _ => none
def sumD : List D → R D
  | [.lst ds] => match intsOf ds with
    | some ns => .ok (.int ns.sum)
    | none => .stk
  | _ => .stk
def allD : List D → R D
  | [.lst ds] => match blsOf ds with
    | some bs => .ok (.bl (bs.all id))
    | none => .stk
  | _ => .stk
/-- tuple(x), list(x) -/
def tupleD : List D → R D
  | [.lst ds] => .ok (.tup ds)
  | [.tup ds] => .ok (.tup ds)
  | [.ftu ds] => .ok (.ftu ds)
  | _ => .stk
def listD : List D → R D
  | [.lst ds] => .ok (.lst ds)
  | [.tup ds] => .ok (.lst ds)
  | [.ftu ds] => .ok (.lst ds)
  | _ => .stk
def intOfD : List D → R D
  | [.int i] => .ok (.int i)
  | [.bl k] => .ok (.int (if k then 1 else 0))
  | [.str x] => if x.length = 1 ∧ 48 ≤ x.cps.getD 0 0 ∧ x.cps.getD 0 0 < 58 then .ok (.int ((x.cps.getD 0 0 : Nat) - 48)) else .stk
  | _ => .stk
def strOfD : List D → R D
  | [.int i] => if i.natAbs.log2 < 1920 then .ok (.str (toString i)) else .stk
  | _ => .stk
theorem ints_rep {K : PySem.W.Frag} {H : Hp} {P : Pr} : ∀ {ds : List D} {ns : List Int} {vs : List V}, intsOf ds = some ns → Reps K H ds P vs → vs = ns.map V.int
  | [], ns, vs, e, h => by simp [intsOf] at e; subst e; exact h.nil_iff
  | d :: ds, ns, vs, e, h => by
    cases d <;> simp [intsOf] at e
    obtain ⟨ms, e1, rfl⟩ := e
    obtain ⟨v, ws, rfl, h1, h2⟩ := h.cons_iff
    unfold Rep at h1
    rw [h1, ints_rep e1 h2]
    rfl
theorem bls_rep {K : PySem.W.Frag} {H : Hp} {P : Pr} : ∀ {ds : List D} {ns : List Bool} {vs : List V}, blsOf ds = some ns → Reps K H ds P vs → vs = ns.map V.bl
  | [], ns, vs, e, h => by simp [blsOf] at e; subst e; exact h.nil_iff
  | d :: ds, ns, vs, e, h => by
    cases d <;> simp [blsOf] at e
    obtain ⟨ms, e1, rfl⟩ := e
    obtain ⟨v, ws, rfl, h1, h2⟩ := h.cons_iff
    unfold Rep at h1
    rw [h1, bls_rep e1 h2]
    rfl
theorem strs_rep {K : PySem.W.Frag} {H : Hp} {P : Pr} : ∀ {ds : List D} {ns : List Str} {vs : List V}, strsOf ds = some ns → Reps K H ds P vs → vs = ns.map V.str
  | [], ns, vs, e, h => by simp [strsOf] at e; subst e; exact h.nil_iff
  | d :: ds, ns, vs, e, h => by
    cases d <;> simp [strsOf] at e
    obtain ⟨ms, e1, rfl⟩ := e
    obtain ⟨v, ws, rfl, h1, h2⟩ := h.cons_iff
    unfold Rep at h1
    rw [h1, strs_rep e1 h2]
    rfl
theorem int2_of {f : Int → Int → D} {g : List D → R D} {ds : List D} {z : D} (hg : ∀ ds, g ds = match ds with | [.int i, .int j] => .ok (f i j) | _ => .stk) (h : g ds = .ok z) : ∃ i j, ds = [.int i, .int j] ∧ z = f i j := by
  rw [hg] at h
  split at h
  · cases h; exact ⟨_, _, rfl, rfl⟩
  · cases h
theorem cd_len : CallR X (.builtin "len") (rDs X.K lenD) := by
  intro pins s σ H xs us Q I r ⟨P, ds, dz, hm, rs, e, out⟩
  unfold lenD at e
  split at e
  · split at e
    · rename_i c; cases e
      obtain ⟨v, rfl, r1⟩ := rs.get1
      obtain rfl := r1.str
      exact call_len pins s σ H _ us Q I r ⟨_, _, rfl, ⟨of_decide_eq_true c, rfl⟩, out.int⟩
    · cases e
  · cases e
    obtain ⟨v, rfl, r1⟩ := rs.get1
    obtain ⟨a, vs, rfl, h1, h2⟩ := r1.tup
    rw [← h2.length] at out
    exact call_len pins s σ H _ us Q I r ⟨_, _, rfl, .inr ⟨vs, SqT.of h1, rfl⟩, out.int⟩
  · cases e
    obtain ⟨v, rfl, r1⟩ := rs.get1
    obtain ⟨a, vs, rfl, h1, h2⟩ := r1.lst
    rw [← h2.length] at out
    exact call_len pins s σ H _ us Q I r ⟨_, _, rfl, .inl ⟨vs, SqL.of h1, rfl⟩, out.int⟩
  · cases e
    obtain ⟨v, rfl, r1⟩ := rs.get1
    obtain ⟨a, rfl, h1⟩ := r1.arg
    refine call_len pins s σ H _ us Q I r ⟨_, _, rfl, .inl ⟨_, h1, rfl⟩, ?_⟩
    rw [List.length_map]
    exact out.int
  · cases e
    obtain ⟨v, rfl, r1⟩ := rs.get1
    obtain ⟨a, vs, o, rfl, h1, _, h2⟩ := r1.ftu
    rw [← h2.length] at out
    exact call_len pins s σ H _ us Q I r ⟨_, _, rfl, .inr ⟨vs, SqT.fz h1, rfl⟩, out.int⟩
  · cases e
theorem cd_max (hc : X.calm = true) : CallR X (.builtin "max") (rDs X.K max2D) := by
  intro pins s σ H xs us Q I r ⟨P, ds, dz, hm, rs, e, out⟩
  obtain ⟨i, j, rfl, rfl⟩ := int2_of (f := fun i j => .int (max i j)) (fun ds => by unfold max2D; rfl) e
  obtain ⟨v, w, rfl, r1, r2⟩ := rs.get2
  obtain rfl := r1.int
  obtain rfl := r2.int
  refine call_max2 hc pins s σ H _ us Q I r ⟨i, j, rfl, ?_⟩
  rw [show (if j > i then j else i) = max i j by omega]
  exact out.int
theorem cd_min (hc : X.calm = true) : CallR X (.builtin "min") (rDs X.K min2D) := by
  intro pins s σ H xs us Q I r ⟨P, ds, dz, hm, rs, e, out⟩
  obtain ⟨i, j, rfl, rfl⟩ := int2_of (f := fun i j => .int (min i j)) (fun ds => by unfold min2D; rfl) e
  obtain ⟨v, w, rfl, r1, r2⟩ := rs.get2
  obtain rfl := r1.int
  obtain rfl := r2.int
  refine call_min2 hc pins s σ H _ us Q I r ⟨i, j, rfl, ?_⟩
  rw [show (if j < i then j else i) = min i j by omega]
  exact out.int
theorem cd_divmod : CallR X (.builtin "divmod") (rDs X.K divmodD) := by
  intro pins s σ H xs us Q I r ⟨P, ds, dz, hm, rs, e, out⟩
  unfold divmodD at e
  split at e
  · split at e
    · rename_i c; cases e
      obtain ⟨v, w, rfl, r1, r2⟩ := rs.get2
      obtain rfl := r1.int
      obtain rfl := r2.int
      refine call_divmod pins s σ H _ us Q I r ⟨_, _, rfl, by unfold smallPos at c; have c := of_decide_eq_true c; exact c, fun p hp => out.newT hm (Reps.cons (by unfold Rep; rfl) (Reps.cons (by unfold Rep; rfl) Reps.nil)) hp⟩
    · cases e
  · cases e
theorem cd_sum (hc : X.calm = true) : CallR X (.builtin "sum") (rDs X.K sumD) := by
  intro pins s σ H xs us Q I r ⟨P, ds, dz, hm, rs, e, out⟩
  unfold sumD at e
  split at e
  · split at e
    · rename_i ns c; cases e
      obtain ⟨v, rfl, r1⟩ := rs.get1
      obtain ⟨a, vs, rfl, h1, h2⟩ := r1.lst
      obtain rfl := ints_rep c h2
      exact cr_sum hc pins s σ H _ us Q I r ⟨a, ns, rfl, SqL.of h1, out.int⟩
    · cases e
  · cases e
theorem cd_all (hc : X.calm = true) : CallR X (.builtin "all") (rDs X.K allD) := by
  intro pins s σ H xs us Q I r ⟨P, ds, dz, hm, rs, e, out⟩
  unfold allD at e
  split at e
  · split at e
    · rename_i ns c; cases e
      obtain ⟨v, rfl, r1⟩ := rs.get1
      obtain ⟨a, vs, rfl, h1, h2⟩ := r1.lst
      obtain rfl := bls_rep c h2
      exact cr_all hc pins s σ H _ us Q I r ⟨a, ns, rfl, SqL.of h1, out.bl⟩
    · cases e
  · cases e
theorem cd_tuple : CallR X (.type "tuple") (rDs X.K tupleD) := by
  intro pins s σ H xs us Q I r ⟨P, ds, dz, hm, rs, e, out⟩
  unfold tupleD at e
  split at e
  · cases e
    obtain ⟨v, rfl, r1⟩ := rs.get1
    obtain ⟨a, vs, rfl, h1, h2⟩ := r1.lst
    exact call_tuple_of pins s σ H _ us Q I r ⟨a, vs, rfl, .inl ⟨SqL.of h1, fun l hl => out.newT hm h2 hl⟩⟩
  · cases e
    obtain ⟨v, rfl, r1⟩ := rs.get1
    obtain ⟨a, vs, rfl, h1, h2⟩ := r1.tup
    exact call_tuple_of pins s σ H _ us Q I r ⟨a, vs, rfl, .inr ⟨SqT.of h1, out.flat (Rep.tup_of h1 h2) rfl⟩⟩
  · cases e
    obtain ⟨v, rfl, r1⟩ := rs.get1
    obtain ⟨a, vs, o, rfl, h1, hd, h2⟩ := r1.ftu
    exact call_tuple_of pins s σ H _ us Q I r ⟨a, vs, rfl, .inr ⟨SqT.fz h1, out.flat (Rep.ftu_of h1 hd h2) rfl⟩⟩
  · cases e
theorem cd_list : CallR X (.type "list") (rDs X.K listD) := by
  intro pins s σ H xs us Q I r ⟨P, ds, dz, hm, rs, e, out⟩
  unfold listD at e
  split at e
  · cases e
    obtain ⟨v, rfl, r1⟩ := rs.get1
    obtain ⟨a, vs, rfl, h1, h2⟩ := r1.lst
    exact call_list_of pins s σ H _ us Q I r ⟨a, vs, rfl, .inl (SqL.of h1), fun l hl => out.newL hm h2 hl⟩
  · cases e
    obtain ⟨v, rfl, r1⟩ := rs.get1
    obtain ⟨a, vs, rfl, h1, h2⟩ := r1.tup
    exact call_list_of pins s σ H _ us Q I r ⟨a, vs, rfl, .inr (SqT.of h1), fun l hl => out.newL hm h2 hl⟩
  · cases e
    obtain ⟨v, rfl, r1⟩ := rs.get1
    obtain ⟨a, vs, o, rfl, h1, _, h2⟩ := r1.ftu
    exact call_list_of pins s σ H _ us Q I r ⟨a, vs, rfl, .inr (SqT.fz h1), fun l hl => out.newL hm h2 hl⟩
  · cases e
theorem cd_str : CallR X (.type "str") (rDs X.K strOfD) := by
  intro pins s σ H xs us Q I r ⟨P, ds, dz, hm, rs, e, out⟩
  unfold strOfD at e
  split at e
  · split at e
    · rename_i c; cases e
      obtain ⟨v, rfl, r1⟩ := rs.get1
      obtain rfl := r1.int
      exact call_str_int pins s σ H _ us Q I r ⟨_, rfl, c, out.str⟩
    · cases e
  · cases e
theorem digit_text : ∀ c : Nat, 48 ≤ c → c < 58 → PySem.intText? ⟨#[c]⟩ = some ((c : Int) - 48) := by
  intro c h1 h2
  have : c = 48 ∨ c = 49 ∨ c = 50 ∨ c = 51 ∨ c = 52 ∨ c = 53 ∨ c = 54 ∨ c = 55 ∨ c = 56 ∨ c = 57 := by omega
  rcases this with rfl | rfl | rfl | rfl | rfl | rfl | rfl | rfl | rfl | rfl <;> decide +kernel
theorem cd_int : CallR X (.type "int") (rDs X.K intOfD) := by
  intro pins s σ H xs us Q I r ⟨P, ds, dz, hm, rs, e, out⟩
  unfold intOfD at e
  split at e
  · cases e
    obtain ⟨v, rfl, r1⟩ := rs.get1
    obtain rfl := r1.int
    exact call_int1 pins s σ H _ us Q I r (.inl ⟨_, rfl, out.int⟩)
  · cases e
    obtain ⟨v, rfl, r1⟩ := rs.get1
    obtain rfl := r1.bl
    exact call_int1 pins s σ H _ us Q I r (.inr ⟨_, rfl, out.int⟩)
  · split at e
    · rename_i x c; cases e
      obtain ⟨v, rfl, r1⟩ := rs.get1
      obtain rfl := r1.str
      refine call_int_str pins s σ H _ us Q I r ⟨x, _, rfl, ?_, by rw [c.1]; decide, out.int⟩
      have q := digit_text _ c.2.1 c.2.2
      rw [one_sign c.1]
      exact q
    · cases e
  · cases e
end
end Y

set_option Elab.async false
set_option linter.all false
set_option maxRecDepth 100000
namespace Y
open PySem PySem.Spec PyProof.Rows L2

def ixD : D → D → R D
  | .str x, .int i => match atI x.cps.toList i with
    | some c => if szOk x.length = true then .ok (.str ⟨#[c]⟩) else .stk
    | none => .stk
  | .tup ds, .int i => match atI ds i with | some d => .ok d | none => .stk
  | .lst ds, .int i => match atI ds i with | some d => .ok d | none => .stk
  | .arg ns, .int i => match atI ns i with | some n => .ok (.int n) | none => .stk
  | .ftu ds, .int i => match atI ds i with | some d => .ok d | none => .stk
  | _, _ => .stk
def cIx (a b : EM) : EM := fun ρ => do
  let (h1, ρ1) ← a ρ
  let (h2, ρ2) ← b ρ1
  let x ← (h1.d ρ2).nox
  let y ← (h2.d ρ2).nox
  let z ← (ixD x y).nox
  pure (.vl z, ρ2)
theorem Reps.atI {K : PySem.W.Frag} {H : Hp} {P : Pr} {ds : List D} {vs : List V} {i : Int} {d : D} (h : Reps K H ds P vs) (e : L2.atI ds i = some d) : ∃ v, L2.atI vs i = some v ∧ Rep K H d P v := by
  unfold L2.atI at e ⊢
  rw [h.length]
  cases q : ixN ds.length i with
  | none => rw [q] at e; cases e
  | some j => rw [q] at e; exact h.get e
theorem ints_atI {ns : List Int} {i n : Int} (e : atI ns i = some n) : atI (ns.map V.int) i = some (.int n) := by
  unfold atI at e ⊢
  rw [List.length_map]
  cases q : ixN ns.length i with
  | none => rw [q] at e; cases e
  | some j =>
    rw [q] at e
    show (ns.map V.int)[j]? = _
    rw [List.getElem?_map, show ns[j]? = some n from e]
    rfl
/-- the items of ds[lo:hi] -/
def cutD (ds : List D) (lo hi : Option Int) : List D := (ds.drop (HT.sIx ds.length 0 lo)).take (HT.sIx ds.length ds.length hi - HT.sIx ds.length 0 lo)
theorem Reps.drop {K : PySem.W.Frag} {H : Hp} {P : Pr} : ∀ (n : Nat) {ds : List D} {vs : List V}, Reps K H ds P vs → Reps K H (ds.drop n) P (vs.drop n)
  | 0, _, _, h => h
  | n + 1, [], _, h => by rw [h.nil_iff]; exact Reps.nil
  | n + 1, d :: ds, _, h => by
    obtain ⟨v, ws, rfl, _, h2⟩ := h.cons_iff
    exact Reps.drop n h2
theorem Reps.take {K : PySem.W.Frag} {H : Hp} {P : Pr} : ∀ (n : Nat) {ds : List D} {vs : List V}, Reps K H ds P vs → Reps K H (ds.take n) P (vs.take n)
  | 0, _, _, h => Reps.nil
  | n + 1, [], _, h => by rw [h.nil_iff]; exact Reps.nil
  | n + 1, d :: ds, _, h => by
    obtain ⟨v, ws, rfl, h1, h2⟩ := h.cons_iff
    exact Reps.cons h1 (Reps.take n h2)
theorem Reps.cut {K : PySem.W.Frag} {H : Hp} {P : Pr} {ds : List D} {vs : List V} (h : Reps K H ds P vs) (lo hi : Option Int) : Reps K H (cutD ds lo hi) P (cutV vs lo hi) := by
  unfold cutD cutV
  rw [h.length]
  exact (h.drop _).take _
def sliceD : D → Option Int → Option Int → R D
  | .str x, lo, hi => if szOk x.length = true then .ok (.str (cutS x lo hi)) else .stk
  | .tup ds, lo, hi => .ok (.tup (cutD ds lo hi))
  | .lst ds, lo, hi => .ok (.lst (cutD ds lo hi))
  | _, _, _ => .stk
abbrev OM := Env → R (Option Int × Env)
def cNoPart : OM := fun ρ => .ok (none, ρ)
def cPart (m : EM) : OM := fun ρ => do
  let (h, ρ1) ← m ρ
  let d ← h.v.nox
  match d with
  | .int i => pure (some i, ρ1)
  | _ => .stk
def cSlice (a : EM) (lo hi : OM) : EM := fun ρ => do
  let (h, ρ1) ← a ρ
  let (l, ρ2) ← lo ρ1
  let (u, ρ3) ← hi ρ2
  let d ← (h.d ρ3).nox
  let z ← (sliceD d l u).nox
  pure (.fr z, ρ3)
def tMo (K : PySem.W.Frag) (P0 : Pr) (O W : List Nat) (E : EK) (m : OM) : TO := fun σ H Q => ∃ ρ, Sim K P0 O W ρ σ H ∧ Res E W σ H (m ρ) fun a => ∀ H', Sim K P0 O W a.2 σ H' → Keep W σ H H' → Q a.1 H'
theorem PO.imp {X : Cx} {e : Option Expr} {t t' : TO} (h : PO X e t) (i : ∀ σ H Q, t' σ H Q → t σ H Q) : PO X e t' := by
  cases h with
  | mk h => exact ⟨fun pins s σ H Q I q => h pins s σ H Q I (i σ H Q q)⟩
section
variable {X : Cx} {P0 : Pr} {O W : List Nat} {E : EK} {a b c e : Expr} {es : List Expr} {ma mb mc : EM} {ms : AM} {pos : Pos}
abbrev CO (X : Cx) (P0 : Pr) (O W : List Nat) (E : EK) (e : Option Expr) (m : OM) : Prop := PO X e (tMo X.K P0 O W E m)
theorem co_none : CO X P0 O W E none cNoPart := PO.imp po_none fun σ H Q ⟨ρ, S, h⟩ => h H S .refl
theorem co_some (h : CEx X P0 O W E e ma) : CO X P0 O W E (some e) (cPart ma) := PO.imp (po_some h) fun σ H Q ⟨ρ, S, h⟩ =>
  ⟨ρ, S, h.of_bind.mono fun ⟨h1, ρ1⟩ q v H1 S1 k1 r1 => by
    obtain ⟨d, e1, q⟩ := q.of_nox
    have r := r1.v e1
    cases d <;> first | (exact q.elim) | skip
    unfold Rep at r
    exact ⟨_, r, q H1 S1 k1⟩⟩
theorem ce_ix (ha : CEx X P0 O W E a ma) (hb : CEx X P0 O W E b mb) (hs : PlainIx b := by intro _ _; rfl) : CEx X P0 O W E (.Subscript a b pos) (cIx ma mb) := PE.imp (pe_ix ix_seq ha hb hs) fun σ H Q ⟨ρ, S, h⟩ => by
  refine ⟨ρ, S, h.of_bind.mono fun ⟨h1, ρ1⟩ q x H1 S1 k1 r1 => ⟨ρ1, S1, (q.keep k1).of_bind.mono fun ⟨h2, ρ2⟩ q2 y H2 S2 k2 r2 => ?_⟩⟩
  obtain ⟨dx, e1, q3⟩ := q2.of_nox
  obtain ⟨dy, e2, q4⟩ := q3.of_nox
  obtain ⟨dz, e3, q5⟩ := q4.of_nox
  have rx := (r1.keep S1 k2).d S2 e1
  have ry := r2.d S2 e2
  have fin : ∀ v, Rep X.K H2 dz (FA P0 O σ) v → Q v H2 := fun v r => q5 v H2 S2 (k1.trans k2) r
  unfold ixD at e3
  split at e3
  · split at e3
    · split at e3
      · rename_i c' hc z; cases e3
        obtain rfl := rx.str
        obtain rfl := ry.int
        exact .inr (.inr ⟨_, _, _, rfl, rfl, of_decide_eq_true z, hc, fin _ (by unfold Rep; rfl)⟩)
      · cases e3
    · cases e3
  · split at e3
    · rename_i d hd; cases e3
      obtain ⟨p, vs, rfl, t1, t2⟩ := rx.tup
      obtain rfl := ry.int
      obtain ⟨v, e4, r4⟩ := t2.atI hd
      exact .inr (.inl ⟨p, vs, _, v, rfl, rfl, SqT.of t1, e4, fin v r4⟩)
    · cases e3
  · split at e3
    · rename_i d hd; cases e3
      obtain ⟨p, vs, rfl, t1, t2⟩ := rx.lst
      obtain rfl := ry.int
      obtain ⟨v, e4, r4⟩ := t2.atI hd
      exact .inl ⟨p, vs, _, v, rfl, rfl, SqL.of t1, e4, fin v r4⟩
    · cases e3
  · split at e3
    · rename_i d hd; cases e3
      obtain ⟨p, rfl, t1⟩ := rx.arg
      obtain rfl := ry.int
      exact .inl ⟨p, _, _, _, rfl, rfl, t1, ints_atI hd, fin _ (by unfold Rep; rfl)⟩
    · cases e3
  · split at e3
    · rename_i d hd; cases e3
      obtain ⟨p, vs, o, rfl, t1, _, t2⟩ := rx.ftu
      obtain rfl := ry.int
      obtain ⟨v, e4, r4⟩ := t2.atI hd
      exact .inr (.inl ⟨p, vs, _, v, rfl, rfl, SqT.fz t1, e4, fin v r4⟩)
    · cases e3
  · cases e3
theorem ce_slice {lo hi : Option Expr} {ml mh : OM} {p2 : Pos} (ha : CEx X P0 O W E a ma) (hl : CO X P0 O W E lo ml) (hh : CO X P0 O W E hi mh) : CEx X P0 O W E (.Subscript a (.Slice lo hi none p2) pos) (cSlice ma ml mh) := PE.imp (pe_slice (sl_list.or (sl_tupA.or sl_str)) ha hl hh) fun σ H Q ⟨ρ, S, h⟩ => by
  refine ⟨ρ, S, h.of_bind.mono fun ⟨h1, ρ1⟩ q x H1 S1 k1 r1 => ⟨ρ1, S1, (q.keep k1).of_bind.mono fun ⟨l, ρ2⟩ q2 H2 S2 k2 => ⟨ρ2, S2, (q2.keep k2).of_bind.mono fun ⟨u, ρ3⟩ q3 H3 S3 k3 => ?_⟩⟩⟩
  obtain ⟨dx, e1, q4⟩ := q3.of_nox
  obtain ⟨dz, e3, q5⟩ := q4.of_nox
  have rx := (r1.keep S1 (k2.trans k3)).d S3 e1
  have out := out_of S3 ((k1.trans k2).trans k3) q5
  unfold sliceD at e3
  split at e3
  · split at e3
    · rename_i z; cases e3
      obtain rfl := rx.str
      exact .inr (.inr ⟨_, rfl, of_decide_eq_true z, out.str⟩)
    · cases e3
  · cases e3
    obtain ⟨p, vs, rfl, t1, t2⟩ := rx.tup
    have t3 := t2.cut l u
    refine .inr (.inl ⟨p, vs, rfl, SqT.of t1, fun z => ?_, fun _ p hp => out.newT S3.dom t3 hp⟩)
    have e4 : cutV vs l u = vs := by
      unfold cutV
      rw [z.1, z.2, List.drop_zero, Nat.sub_zero, List.take_length]
    rw [e4] at t3
    exact out.flat (Rep.tup_of t1 t3) rfl
  · cases e3
    obtain ⟨p, vs, rfl, t1, t2⟩ := rx.lst
    exact .inl ⟨p, vs, rfl, SqL.of t1, fun p hp => out.newL S3.dom (t2.cut l u) hp⟩
  · cases e3
end

/-- behind a statement or an expression: U: own slots that keep their objects -/
structure Tr (O U : List Nat) (σ : St) (H : Hp) (σ' : St) (H' : Hp) : Prop where
  keep : ∀ b o, H b = some o → ¬ OA O σ b → H' b = some o
  some : ∀ b, H b ≠ none → H' b ≠ none
  own : ∀ b, OA O σ' b → OA O σ b ∨ H b = none
  unch : ∀ i ∈ U, σ'[i]? = σ[i]?
theorem Tr.of {O W U : List Nat} {σ : St} {H H' : Hp} (hs : ∀ i ∈ W, i ∈ O) (k : Keep W σ H H') : Tr O U σ H σ H' := ⟨fun b o e n => k.keep b o e fun ⟨i, hi, z⟩ => n ⟨i, hs i hi, z⟩, k.some, fun _ z => .inl z, fun _ _ => rfl⟩
theorem Tr.refl {O U : List Nat} {σ : St} {H : Hp} : Tr O U σ H σ H := ⟨fun _ _ e _ => e, fun _ e => e, fun _ z => .inl z, fun _ _ => rfl⟩
theorem Tr.trans {O U : List Nat} {σ σ1 σ2 : St} {H H1 H2 : Hp} (a : Tr O U σ H σ1 H1) (b : Tr O U σ1 H1 σ2 H2) : Tr O U σ H σ2 H2 where
  keep := fun c o e n => b.keep c o (a.keep c o e n) fun z => by
    rcases a.own c z with z | z
    · exact n z
    · rw [e] at z; cases z
  some := fun c e => b.some c (a.some c e)
  own := fun c z => by
    rcases b.own c z with z | z
    · exact a.own c z
    · exact .inr (Classical.byContradiction fun q => a.some c q z)
  unch := fun i hi => (b.unch i hi).trans (a.unch i hi)
theorem Tr.less {O U U' : List Nat} {σ σ1 : St} {H H1 : Hp} (a : Tr O U σ H σ1 H1) (h : ∀ i ∈ U', i ∈ U) : Tr O U' σ H σ1 H1 := ⟨a.keep, a.some, a.own, fun i hi => a.unch i (h i hi)⟩
section
variable {K : PySem.W.Frag} {P0 : Pr} {O W U : List Nat} {ρ ρ' : Env} {σ σ' : St} {H H' : Hp}
end
end Y

set_option Elab.async false
set_option linter.all false
set_option maxRecDepth 100000
namespace Y
open PySem PySem.Spec PyProof.Rows L2

/-- v is the datum d that the handle tells, and stays so -/
def Hold (K : PySem.W.Frag) (O : List Nat) (h : Hd) (d : D) (v : V) (P0 : Pr) (ρ : Env) (σ : St) (H : Hp) : Prop := match h with
  | .ow i => i ∈ O ∧ ρ[i]? = some (some d) ∧ σ[i]? = some (some v)
  | _ => Rep K H d (FA P0 O σ) v
def Hd.ws : Hd → List Nat
  | .ow i => [i]
  | _ => []
section
variable {K : PySem.W.Frag} {P0 P1 : Pr} {O W : List Nat} {ρ ρ' : Env} {σ σ' : St} {H H' Hs : Hp} {h : Hd} {d : D} {v : V}
theorem Hold.rep (S : Sim K P0 O W ρ σ H) (o : Hold K O h d v P0 ρ σ H) : RepW K H d (FA P0 O σ) v := by
  cases h with
  | fr d' => exact Rep.weak S.dom o
  | vl d' => exact Rep.weak S.dom o
  | ow i =>
    obtain ⟨w, h1, h2⟩ := S.own i d o.2.1 o.1
    rw [o.2.2] at h1; cases h1
    exact h2.weak
theorem HdR.hold (r : HdR K P0 O Hs σ H h v) (e : h.d ρ = .ok d) : Hold K O h d v P0 ρ σ H := by
  cases h with
  | fr d' => cases e; exact r.1
  | vl d' => cases e; exact r
  | ow i => exact ⟨r.1, look_some e, r.2⟩
theorem Hold.keep (S : Sim K P0 O W ρ σ H) (o : Hold K O h d v P0 ρ σ H) (k : ∀ b o, H b = some o → ¬ FA P0 O σ b → H' b = some o) (w : ∀ b, FA P0 O σ' b → FA P0 O σ b ∨ H b = none)
    (hw : ∀ w ∈ h.ws, σ'[w]? = σ[w]? ∧ ρ'[w]? = ρ[w]?) : Hold K O h d v P0 ρ' σ' H' := by
  cases h with
  | fr d' => exact Rep.mono d S.dom k w o
  | vl d' => exact Rep.mono d S.dom k w o
  | ow i =>
    obtain ⟨h1, h2⟩ := hw i (by simp [Hd.ws])
    exact ⟨o.1, h2.trans o.2.1, h1.trans o.2.2⟩
theorem Hold.grow (S : Sim K P0 O W ρ σ H) (o : Hold K O h d v P0 ρ σ H) (w : ∀ b, P1 b → P0 b ∨ H b = none) (k : Same H H') : Hold K O h d v P1 ρ σ H' := by
  have q : ∀ b, FA P1 O σ b → FA P0 O σ b ∨ H b = none := fun b z => by
    rcases z with z | z
    · rcases w b z with z | z
      · exact .inl (.inl z)
      · exact .inr z
    · exact .inl (.inr z)
  cases h with
  | fr d' => exact Rep.mono d S.dom (fun b o e _ => k b o e) q o
  | vl d' => exact Rep.mono d S.dom (fun b o e _ => k b o e) q o
  | ow i => exact o
end
theorem Hold.mem {K : PySem.W.Frag} {P0 : Pr} {O : List Nat} {ρ : Env} {σ : St} {H : Hp} {h : Hd} {d : D} {v : V} (o : Hold K O h d v P0 ρ σ H) : ∀ w ∈ h.ws, w ∈ O := by
  cases h with
  | fr _ => exact fun w z => nomatch z
  | vl _ => exact fun w z => nomatch z
  | ow i =>
    intro w z
    have z : w = i := by simpa [Hd.ws] using z
    rw [z]; exact o.1
/-- an iterator gives ds; ws: own slots that it reads from; Ok: what must stay -/
structure Src (K : PySem.W.Frag) (O W : List Nat) (ds : List D) (ws : List Nat) (J : It) (Ok : Pr → Env → St → Hp → Prop) : Prop where
  go : ∀ P0 i ρ σ H, Sim K P0 O W ρ σ H → Ok P0 ρ σ H → i < ds.length → J.go i H
  stop : ∀ P0 ρ σ H, Sim K P0 O W ρ σ H → Ok P0 ρ σ H → J.stop ds.length H
  yld : ∀ P0 (i : Nat) ρ σ H x H' d, Sim K P0 O W ρ σ H → Ok P0 ρ σ H → ds[i]? = some d → J.yld i H x H' → Same H H' ∧ Rep K H' d (FA P0 O σ) x
  keep : ∀ P0 ρ σ H ρ' σ' H', Sim K P0 O W ρ σ H → (∀ b o, H b = some o → ¬ FA P0 O σ b → H' b = some o) → (∀ b, FA P0 O σ' b → FA P0 O σ b ∨ H b = none) → (∀ w ∈ ws, σ'[w]? = σ[w]? ∧ ρ'[w]? = ρ[w]?) → Ok P0 ρ σ H → Ok P0 ρ' σ' H'
  mem : ∀ P0 ρ σ H, Ok P0 ρ σ H → ∀ w ∈ ws, w ∈ O
  grow : ∀ P0 P1 ρ σ H H', Sim K P0 O W ρ σ H → (∀ b, P1 b → P0 b ∨ H b = none) → Same H H' → Ok P0 ρ σ H → Ok P1 ρ σ H'
abbrev IM := Env → R ((List D × List Nat) × Env)
def tMi (K : PySem.W.Frag) (P0 : Pr) (O W : List Nat) (E : EK) (m : IM) : TI := fun σ H R => ∃ ρ, Sim K P0 O W ρ σ H ∧
  Res E W σ H (m ρ) fun a => ∀ J H' Ok, Sim K P0 O W a.2 σ H' → Keep W σ H H' → Src K O W a.1.1 a.1.2 J Ok → Ok P0 a.2 σ H' → a.1.1.length ≤ sizeLine → R J H'
theorem PI.imp {X : Cx} {tg e : Expr} {t t' : TI} (h : PI X tg e t) (i : ∀ σ H R, t' σ H R → t σ H R) : PI X tg e t' := ⟨fun pins s σ H R I q => h.run pins s σ H R I (i σ H R q)⟩
theorem PI.or {X : Cx} {tg e : Expr} {t t' : TI} (h : PI X tg e t) (h' : PI X tg e t') : PI X tg e fun σ H R => t σ H R ∨ t' σ H R :=
  ⟨fun pins s σ H R I q => q.elim (h.run pins s σ H R I) (h'.run pins s σ H R I)⟩
section
variable {K : PySem.W.Frag} {O W : List Nat} {h h2 : Hd}
/-- over a list that a handle tells -/
theorem src_list {a : Addr} {ds : List D} : Src K O W ds h.ws (Itl K a) (Hold K O h (.lst ds) (.ref a)) where
  go := fun P0 i ρ σ H S ok hi => by
    obtain ⟨p, vs, e, t1, t2⟩ := (ok.rep S).lst
    cases e
    exact walk_list.goes i H (by rw [t2.length]; exact hi) (SqL.of t1)
  stop := fun P0 ρ σ H S ok => by
    obtain ⟨p, vs, e, t1, t2⟩ := (ok.rep S).lst
    cases e
    rw [← t2.length]
    exact walk_list.stops H (SqL.of t1)
  yld := fun P0 i ρ σ H x H' d S ok hd y => by
    obtain ⟨p, vs, e, t1, t2⟩ := (ok.rep S).lst
    cases e
    obtain ⟨v, e1, r⟩ := t2.get hd
    obtain ⟨e2, e3⟩ := walk_list.yields i H x H' (by rw [t2.length]; exact (List.getElem?_eq_some_iff.mp hd).1) (SqL.of t1) y
    subst e2
    rw [e1] at e3; cases e3
    exact ⟨fun _ _ z => z, r⟩
  keep := fun P0 ρ σ H ρ' σ' H' S k w hw ok => ok.keep S k w hw
  mem := fun P0 ρ σ H ok => ok.mem
  grow := fun P0 P1 ρ σ H H' S w k ok => ok.grow S w k
theorem src_tup {a : Addr} {ds : List D} : Src K O W ds h.ws (Itt K a) (Hold K O h (.tup ds) (.ref a)) where
  go := fun P0 i ρ σ H S ok hi => by
    obtain ⟨p, vs, e, t1, t2⟩ := (ok.rep S).tup
    cases e
    exact walk_tup.goes i H (by rw [t2.length]; exact hi) (SqT.of t1)
  stop := fun P0 ρ σ H S ok => by
    obtain ⟨p, vs, e, t1, t2⟩ := (ok.rep S).tup
    cases e
    rw [← t2.length]
    exact walk_tup.stops H (SqT.of t1)
  yld := fun P0 i ρ σ H x H' d S ok hd y => by
    obtain ⟨p, vs, e, t1, t2⟩ := (ok.rep S).tup
    cases e
    obtain ⟨v, e1, r⟩ := t2.get hd
    obtain ⟨e2, e3⟩ := walk_tup.yields i H x H' (by rw [t2.length]; exact (List.getElem?_eq_some_iff.mp hd).1) (SqT.of t1) y
    subst e2
    rw [e1] at e3; cases e3
    exact ⟨fun _ _ z => z, r⟩
  keep := fun P0 ρ σ H ρ' σ' H' S k w hw ok => ok.keep S k w hw
  mem := fun P0 ρ σ H ok => ok.mem
  grow := fun P0 P1 ρ σ H H' S w k ok => ok.grow S w k
theorem src_ftu {a : Addr} {ds : List D} : Src K O W ds h.ws (Itt K a) (Hold K O h (.ftu ds) (.ref a)) where
  go := fun P0 i ρ σ H S ok hi => by
    obtain ⟨p, vs, o, e, t1, _, t2⟩ := (ok.rep S).ftu
    cases e
    exact walk_tup.goes i H (by rw [t2.length]; exact hi) (SqT.fz t1)
  stop := fun P0 ρ σ H S ok => by
    obtain ⟨p, vs, o, e, t1, _, t2⟩ := (ok.rep S).ftu
    cases e
    rw [← t2.length]
    exact walk_tup.stops H (SqT.fz t1)
  yld := fun P0 i ρ σ H x H' d S ok hd y => by
    obtain ⟨p, vs, o, e, t1, _, t2⟩ := (ok.rep S).ftu
    cases e
    obtain ⟨v, e1, r⟩ := t2.get hd
    obtain ⟨e2, e3⟩ := walk_tup.yields i H x H' (by rw [t2.length]; exact (List.getElem?_eq_some_iff.mp hd).1) (SqT.fz t1) y
    subst e2
    rw [e1] at e3; cases e3
    exact ⟨fun _ _ z => z, r⟩
  keep := fun P0 ρ σ H ρ' σ' H' S k w hw ok => ok.keep S k w hw
  mem := fun P0 ρ σ H ok => ok.mem
  grow := fun P0 P1 ρ σ H H' S w k ok => ok.grow S w k
theorem src_arg {a : Addr} {ns : List Int} : Src K O W (ns.map D.int) h.ws (Itl K a) (Hold K O h (.arg ns) (.ref a)) where
  go := fun P0 i ρ σ H S ok hi => by
    obtain ⟨p, e, t1⟩ := (ok.rep S).arg
    cases e
    exact walk_list.goes i H (by simpa using hi) t1
  stop := fun P0 ρ σ H S ok => by
    obtain ⟨p, e, t1⟩ := (ok.rep S).arg
    cases e
    have := walk_list.stops H t1
    simpa using this
  yld := fun P0 i ρ σ H x H' d S ok hd y => by
    obtain ⟨p, e, t1⟩ := (ok.rep S).arg
    cases e
    obtain ⟨e2, e3⟩ := walk_list.yields i H x H' (by have := (List.getElem?_eq_some_iff.mp hd).1; simpa using this) t1 y
    subst e2
    rw [List.getElem?_map] at e3 hd
    cases q : ns[i]? with
    | none => rw [q] at hd; cases hd
    | some n => rw [q] at hd e3; cases hd; cases e3; exact ⟨fun _ _ z => z, by unfold Rep; rfl⟩
  keep := fun P0 ρ σ H ρ' σ' H' S k w hw ok => ok.keep S k w hw
  mem := fun P0 ρ σ H ok => ok.mem
  grow := fun P0 P1 ρ σ H H' S w k ok => ok.grow S w k
theorem src_range {lo : Int} {n : Nat} : Src K O W ((List.range n).map fun i => D.int (lo + (i : Nat))) [] (Itr lo n) (fun _ _ _ _ => True) where
  go := fun P0 i ρ σ H S ok hi => by simpa [Itr] using hi
  stop := fun P0 ρ σ H S ok => by simp [Itr]
  yld := fun P0 i ρ σ H x H' d S ok hd y => by
    obtain ⟨e1, e2⟩ := y
    subst e1
    rw [List.getElem?_map] at hd
    cases q : (List.range n)[i]? with
    | none => rw [q] at hd; cases hd
    | some j =>
      rw [q] at hd; cases hd
      have : j = i := by
        obtain ⟨h1, h2⟩ := List.getElem?_eq_some_iff.mp q
        simpa using h2.symm
      subst this
      exact ⟨fun _ _ z => z, by unfold Rep; exact e2⟩
  keep := fun _ _ _ _ _ _ _ _ _ _ _ _ => trivial
  mem := fun _ _ _ _ _ w z => nomatch z
  grow := fun _ _ _ _ _ _ _ _ _ _ => trivial
theorem src_str {z : Str} : Src K O W (z.cps.toList.map fun c => D.str ⟨#[c]⟩) [] (Its z) (fun _ _ _ _ => True) where
  go := fun P0 i ρ σ H S ok hi => by simpa [Its] using hi
  stop := fun P0 ρ σ H S ok => by simp [Its]
  yld := fun P0 i ρ σ H x H' d S ok hd y => by
    obtain ⟨e1, c, e2, e3⟩ := y
    subst e1
    rw [List.getElem?_map, Array.getElem?_toList, e2] at hd
    cases hd
    exact ⟨fun _ _ z => z, by unfold Rep; exact e3⟩
  keep := fun _ _ _ _ _ _ _ _ _ _ _ _ => trivial
  mem := fun _ _ _ _ _ w z => nomatch z
  grow := fun _ _ _ _ _ _ _ _ _ _ => trivial
theorem Src.anyw {ds : List D} {J : It} {Ok : Pr → Env → St → Hp → Prop} (q : Src K O W ds [] J Ok) : Src K O W ds h.ws J (fun P0 ρ σ H => Ok P0 ρ σ H ∧ ∀ w ∈ h.ws, w ∈ O) where
  go := fun P0 i ρ σ H S ok => q.go P0 i ρ σ H S ok.1
  stop := fun P0 ρ σ H S ok => q.stop P0 ρ σ H S ok.1
  yld := fun P0 i ρ σ H x H' d S ok => q.yld P0 i ρ σ H x H' d S ok.1
  keep := fun P0 ρ σ H ρ' σ' H' S k w _ ok => ⟨q.keep P0 ρ σ H ρ' σ' H' S k w (fun _ z => nomatch z) ok.1, ok.2⟩
  mem := fun P0 ρ σ H ok => ok.2
  grow := fun P0 P1 ρ σ H H' S w k ok => ⟨q.grow P0 P1 ρ σ H H' S w k ok.1, ok.2⟩
end
def pairsD : List D → List D → List D
  | x :: xs, y :: ys => .tup [x, y] :: pairsD xs ys
  | _, _ => []
theorem pairsD_len : ∀ xs ys : List D, (pairsD xs ys).length = min xs.length ys.length
  | [], _ => by simp [pairsD]
  | _ :: _, [] => by simp [pairsD]
  | x :: xs, y :: ys => by simp [pairsD, pairsD_len xs ys]
theorem pairsD_get : ∀ {xs ys : List D} {i : Nat} {d : D}, (pairsD xs ys)[i]? = some d → ∃ x y, xs[i]? = some x ∧ ys[i]? = some y ∧ d = .tup [x, y]
  | [], _, _, _, h => by simp [pairsD] at h
  | _ :: _, [], _, _, h => by simp [pairsD] at h
  | x :: xs, y :: ys, 0, d, h => by simp [pairsD] at h; exact ⟨x, y, rfl, rfl, h.symm⟩
  | x :: xs, y :: ys, i + 1, d, h => by simpa using pairsD_get (i := i) (by simpa [pairsD] using h)
/-- a new pair at T -/
theorem pair_rep {K : PySem.W.Frag} {H : Hp} {P : Pr} {x y : D} {v w : V} {T : Addr} (hm : ∀ b, P b → isMut (H b)) (hT : H T = none) (h1 : Rep K H x P v) (h2 : Rep K H y P w) : Same H (upd H T (.tup [v, w])) ∧ Rep K (upd H T (.tup [v, w])) (.tup [x, y]) P (.ref T) :=
  ⟨Same.new hT, Rep.newT hm (Reps.cons h1 (Reps.cons h2 Reps.nil)) hT⟩
section
variable {K : PySem.W.Frag} {O W : List Nat} {h h2 : Hd}
end
section
variable {X : Cx} {P0 : Pr} {O W : List Nat} {E : EK} {a b c e tg : Expr} {es : List Expr} {ma mb mc : EM} {ms : AM} {pos : Pos}
abbrev CI (X : Cx) (P0 : Pr) (O W : List Nat) (E : EK) (tg e : Expr) (m : IM) : Prop := PI X tg e (tMi X.K P0 O W E m)
/-- over a list, a tuple, a text, the script -/
def itD : D → R (List D)
  | .lst ds => .ok ds
  | .tup ds => .ok ds
  | .arg ns => .ok (ns.map D.int)
  | .str z => .ok (z.cps.toList.map fun c => D.str ⟨#[c]⟩)
  | .ftu ds => .ok ds
  | _ => .stk
def cIter (m : EM) : IM := fun ρ => do
  let (h, ρ1) ← m ρ
  let d ← (h.d ρ1).nox
  let ds ← (itD d).nox
  if szOk ds.length = true then pure ((ds, h.ws), ρ1) else .stk
theorem ci_any (ha : CEx X P0 O W E a ma) : CI X P0 O W E tg a (cIter ma) := PI.imp (PI.or (pi_list ha) (PI.or (pi_tup ha) (pi_str ha))) fun σ H _ ⟨ρ, S, h⟩ => by
  unfold cIter at h
  cases em : ma ρ with
  | er c ds =>
    rw [em] at h
    exact .inl ⟨ρ, S, by rw [em]; exact h⟩
  | stk => rw [em] at h; exact h.elim
  | ok p =>
    obtain ⟨h1, ρ1⟩ := p
    rw [em] at h
    obtain ⟨d, ed, h⟩ := Res.of_nox (show Res E W σ H ((h1.d ρ1).nox >>= _) _ from h)
    obtain ⟨ds, ei, h⟩ := h.of_nox
    by_cases c : szOk ds.length = true
    · rw [if_pos c] at h
      have hz := of_decide_eq_true c
      cases d <;> simp only [itD, R.ok.injEq, reduceCtorEq] at ei
      · subst ei
        refine .inr (.inr ⟨ρ, S, ?_⟩)
        rw [em]
        intro v H1 S1 k1 r1
        obtain rfl := (r1.d S1 ed).str
        exact ⟨_, rfl, h _ H1 _ S1 k1 src_str.anyw ⟨trivial, (r1.hold ed).mem⟩ hz⟩
      · subst ei
        refine .inr (.inl ⟨ρ, S, ?_⟩)
        rw [em]
        intro v H1 S1 k1 r1
        obtain ⟨p, vs, rfl, t1, t2⟩ := (r1.d S1 ed).tup
        exact ⟨p, rfl, ⟨vs, SqT.of t1⟩, h _ H1 _ S1 k1 src_tup (r1.hold ed) hz⟩
      · subst ei
        refine .inl ⟨ρ, S, ?_⟩
        rw [em]
        intro v H1 S1 k1 r1
        obtain ⟨p, vs, rfl, t1, t2⟩ := (r1.d S1 ed).lst
        exact ⟨p, rfl, ⟨vs, SqL.of t1⟩, h _ H1 _ S1 k1 src_list (r1.hold ed) hz⟩
      · subst ei
        refine .inl ⟨ρ, S, ?_⟩
        rw [em]
        intro v H1 S1 k1 r1
        obtain ⟨p, rfl, t1⟩ := (r1.d S1 ed).arg
        exact ⟨p, rfl, ⟨_, t1⟩, h _ H1 _ S1 k1 src_arg (r1.hold ed) hz⟩
      · subst ei
        refine .inr (.inl ⟨ρ, S, ?_⟩)
        rw [em]
        intro v H1 S1 k1 r1
        obtain ⟨p, vs, o, rfl, t1, _, t2⟩ := (r1.d S1 ed).ftu
        exact ⟨p, rfl, ⟨vs, SqT.fz t1⟩, h _ H1 _ S1 k1 src_ftu (r1.hold ed) hz⟩
    · rw [if_neg c] at h
      exact h.elim
def rngOk (i : Int) : Bool := decide (-(2 ^ 62) ≤ i ∧ i < 2 ^ 62)
def rng1D : List D → R (List D)
  | [.int j] => if rngOk j = true then .ok ((List.range j.toNat).map fun i => D.int (0 + (i : Nat))) else .stk
  | _ => .stk
def cRange (f : List D → R (List D)) (m : AM) : IM := fun ρ => do
  let (hs, ρ1) ← m ρ
  let ds ← (vsOf hs).nox
  let xs ← (f ds).nox
  if szOk xs.length = true then pure ((xs, []), ρ1) else .stk
theorem ci_range1 {p : Pos} (hm : X.mg "range" = none) (ha : CA X P0 O W E [a] ms) (hg : Gl X "range" := by rfl) (hs : starEach [a] X.env = [(false, eval a X.env)] := by rfl) : CI X P0 O W E tg (.Call (.Name "range" p) [a] [] pos) (cRange rng1D ms) := PI.imp (pi_range1 hg hm ha hs) fun σ H R ⟨ρ, S, h⟩ => by
  refine ⟨ρ, S, h.of_bind.mono fun ⟨hs, ρ1⟩ q vs H1 S1 k1 r1 => ?_⟩
  obtain ⟨ds, e1, q⟩ := q.of_nox
  obtain ⟨xs, e2, q⟩ := q.of_nox
  have rr := HdRs.vs r1 e1
  by_cases c : szOk xs.length = true
  · rw [if_pos c] at q
    unfold rng1D at e2
    split at e2
    · split at e2
      · rename_i j z; cases e2
        obtain ⟨v, ws, rfl, h1, h2⟩ := rr.cons_iff
        have h2 := h2.nil_iff
        subst h2
        unfold Rep at h1
        subst h1
        unfold rngOk at z
        have z := of_decide_eq_true z
        exact ⟨_, rfl, z.1, z.2, q _ H1 _ S1 k1 src_range trivial (of_decide_eq_true c)⟩
      · cases e2
    · cases e2
  · rw [if_neg c] at q
    exact q.elim
end
end Y

set_option Elab.async false
set_option linter.all false
set_option maxRecDepth 100000
namespace Y
open PySem PySem.Spec PyProof.Rows L2

theorem OA_of {O : List Nat} {σ σ' : St} (h : ∀ i ∈ O, σ'[i]? = σ[i]?) (b : Addr) : OA O σ' b ↔ OA O σ b := by
  constructor
  · rintro ⟨i, hi, e⟩; exact ⟨i, hi, (h i hi).symm.trans e⟩
  · rintro ⟨i, hi, e⟩; exact ⟨i, hi, (h i hi).trans e⟩
section
variable {K : PySem.W.Frag} {P0 P1 : Pr} {O W : List Nat} {ρ ρ' : Env} {σ σ' : St} {H H' : Hp} {d : D} {v : V}
theorem FA_of (h : ∀ i ∈ O, σ'[i]? = σ[i]?) (b : Addr) : FA P0 O σ' b ↔ FA P0 O σ b := or_congr Iff.rfl (OA_of h b)
/-- other slots, less known -/
theorem Sim.move (S : Sim K P0 O W ρ σ H) (hl : ρ'.length ≤ σ'.length) (ho : ∀ i ∈ O, σ'[i]? = σ[i]?) (hρ : ∀ i ∈ O, ∀ d, ρ'[i]? = some (some d) → ρ[i]? = some (some d))
    (hv : ∀ (i : Nat) d, ρ'[i]? = some (some d) → i ∉ O → ∃ v, σ'[i]? = some (some v) ∧ Rep K H d (FA P0 O σ) v) : Sim K P0 O W ρ' σ' H where
  sub := S.sub
  len := hl
  dom := fun b z => S.dom b ((FA_of ho b).mp z)
  val := fun i d e n => by
    obtain ⟨v, h1, h2⟩ := hv i d e n
    exact ⟨v, h1, h2.less S.dom fun b z => (FA_of ho b).mp z⟩
  own := fun i d e n => by
    obtain ⟨v, h1, h2⟩ := S.own i d (hρ i n d e) n
    refine ⟨v, (ho i n).trans h1, ?_⟩
    have fa : ∀ b, FA P0 O σ' b → FA P0 O σ b := fun b z => (FA_of ho b).mp z
    cases d with
    | lst ds => obtain ⟨a, vs, rfl, ht, hr⟩ := h2; exact ⟨a, vs, rfl, ht, hr.less S.dom fa⟩
    | dik ks ds => obtain ⟨a, vs, rfl, hl, ht, hr⟩ := h2; exact ⟨a, vs, rfl, hl, ht, hr.less S.dom fa⟩
    | dit ks ds => obtain ⟨a, vs, rfl, hl, ht, hr⟩ := h2; exact ⟨a, vs, rfl, hl, ht, hr.less S.dom fa⟩
    | non => exact h2
    | bl _ => exact h2
    | int _ => exact h2
    | str _ => exact h2
    | tup _ => exact h2
    | arg _ => exact h2
    | ftu _ => exact h2
    | tab p q => exact h2
  sep := fun i j a hi hj e1 e2 => S.sep i j a hi hj ((ho i hi).symm.trans e1) ((ho j hj).symm.trans e2)
  sep0 := fun a z => S.sep0 a ((OA_of ho a).mp z)
theorem Sim.set (S : Sim K P0 O W ρ σ H) {i : Nat} (hi : i ∉ O) (r : Rep K H d (FA P0 O σ) v) : Sim K P0 O W (ρ.set i (some d)) (σ.set i (some v)) H := by
  refine S.move (by simpa using S.len) (fun j hj => ?_) (fun j hj d' e => ?_) fun j d' e n => ?_
  · exact List.getElem?_set_ne (fun (e : i = j) => hi (by rw [e]; exact hj))
  · rwa [List.getElem?_set_ne (fun (e : i = j) => hi (by rw [e]; exact hj))] at e
  · by_cases hj : i = j
    · subst hj
      have h1 : i < ρ.length := by
        have := (List.getElem?_eq_some_iff.mp e).1
        simpa using this
      rw [List.getElem?_set_self h1] at e
      cases e
      exact ⟨v, List.getElem?_set_self (Nat.lt_of_lt_of_le h1 S.len), r⟩
    · rw [List.getElem?_set_ne hj] at e ⊢
      exact S.val j d' e n
/-- forgetting -/
def wipeE (ρ : Env) : List Nat → Env
  | [] => ρ
  | i :: is => (wipeE ρ is).set i none
theorem wipeE_length (ρ : Env) : ∀ is, (wipeE ρ is).length = ρ.length
  | [] => rfl
  | i :: is => by unfold wipeE; rw [List.length_set, wipeE_length ρ is]
theorem wipeE_some : ∀ {is : List Nat} {j : Nat} {d : D}, (wipeE ρ is)[j]? = some (some d) → ρ[j]? = some (some d) ∧ j ∉ is
  | [], j, d, e => ⟨e, by simp⟩
  | i :: is, j, d, e => by
    unfold wipeE at e
    by_cases hj : i = j
    · subst hj
      by_cases hl : i < (wipeE ρ is).length
      · rw [List.getElem?_set_self hl] at e; cases e
      · rw [List.getElem?_eq_none (by simpa using hl)] at e; cases e
    · rw [List.getElem?_set_ne hj] at e
      obtain ⟨h1, h2⟩ := wipeE_some e
      exact ⟨h1, by simp only [List.mem_cons, not_or]; exact ⟨fun z => hj z.symm, h2⟩⟩
theorem Sim.wipe (S : Sim K P0 O W ρ σ H) (is : List Nat) : Sim K P0 O W (wipeE ρ is) σ H :=
  S.move (by rw [wipeE_length]; exact S.len) (fun _ _ => rfl) (fun i _ d e => (wipeE_some e).1) fun i d e n => S.val i d (wipeE_some e).1 n
theorem wipe_ne {is : List Nat} {j : Nat} (h : j ∉ is) : (L2.wipe σ is)[j]? = σ[j]? := wipe_out h
/-- a comprehension's own names -/
theorem Sim.wipe2 (S : Sim K P0 O W ρ σ H) {is : List Nat} (h : ∀ i ∈ is, i ∉ O) : Sim K P0 O W (wipeE ρ is) (L2.wipe σ is) H := by
  refine S.move (by rw [wipeE_length, L2.wipe_length]; exact S.len) (fun i hi => wipe_ne fun z => h i z hi) (fun i _ d e => (wipeE_some e).1) fun i d e n => ?_
  obtain ⟨e1, e2⟩ := wipeE_some e
  rw [wipe_ne e2]
  exact S.val i d e1 n
/-- back from the block: the wiped slots are not told -/
theorem Sim.out {is : List Nat} (S : Sim K P0 O W ρ (L2.wipe σ is) H) (h : ∀ i ∈ is, i ∉ O) (hρ : ∀ i ∈ is, ∀ d, ρ[i]? ≠ some (some d)) : Sim K P0 O W ρ σ H := by
  refine S.move (by have := S.len; rwa [L2.wipe_length] at this) (fun i hi => (wipe_ne fun z => h i z hi).symm) (fun i _ d e => e) fun i d e n => ?_
  obtain ⟨v, h1, h2⟩ := S.val i d e n
  rw [wipe_ne fun z => hρ i z d e] at h1
  exact ⟨v, h1, h2⟩
/-- one more object is forbidden -/
theorem Sim.more (S : Sim K P0 O W ρ σ H) {q : Addr} {vs : List V} (hq : H q = none) : Sim K (fun b => P0 b ∨ b = q) O W ρ σ (upd H q (.lst vs)) := by
  have S' := S.same (Same.new (o := .lst vs) hq)
  have fa : ∀ b, FA (fun b => P0 b ∨ b = q) O σ b → FA P0 O σ b ∨ H b = none := fun b z => by
    rcases z with (z | z) | z
    · exact .inl (.inl z)
    · rw [z]; exact .inr hq
    · exact .inl (.inr z)
  refine ⟨S.sub, S.len, fun b z => ?_, fun i d e n => ?_, fun i d e n => ?_, S.sep, fun a z => ?_⟩
  · rcases z with (z | z) | z
    · exact S'.dom b (.inl z)
    · rw [z, upd_same]; trivial
    · exact S'.dom b (.inr z)
  · obtain ⟨v, h1, h2⟩ := S.val i d e n
    exact ⟨v, h1, h2.mono d S.dom (fun b o e _ => Same.new hq b o e) fa⟩
  · obtain ⟨v, h1, h2⟩ := S.own i d e n
    refine ⟨v, h1, ?_⟩
    cases d with
    | lst ds => obtain ⟨a, vs, rfl, ht, hr⟩ := h2; exact ⟨a, vs, rfl, Same.new hq _ _ ht, hr.mono ds S.dom (fun b o e _ => Same.new hq b o e) fa⟩
    | dik ks ds => obtain ⟨a, vs, rfl, hl, ht, hr⟩ := h2; exact ⟨a, vs, rfl, hl, Same.new hq _ _ ht, hr.mono ds S.dom (fun b o e _ => Same.new hq b o e) fa⟩
    | dit ks ds => obtain ⟨a, vs, rfl, hl, ht, hr⟩ := h2; exact ⟨a, vs, rfl, hl, Same.new hq _ _ ht, hr.mono ds S.dom (fun b o e _ => Same.new hq b o e) fa⟩
    | non => exact h2
    | bl _ => exact h2
    | int _ => exact h2
    | str _ => exact h2
    | tup _ => exact h2
    | arg _ => exact h2
    | ftu _ => exact h2
    | tab p q => obtain ⟨a, rfl, ht⟩ := h2; exact ⟨a, rfl, ht.ext (Same.new hq)⟩
  · rintro (y | y)
    · exact S.sep0 a z y
    · subst y
      exact (S.dom a (.inr z)).some hq
theorem Sim.lessP (S : Sim K P1 O W ρ σ H) (h : ∀ b, P0 b → P1 b) : Sim K P0 O W ρ σ H := by
  have fa : ∀ b, FA P0 O σ b → FA P1 O σ b := fun b z => z.imp (h b) id
  refine ⟨S.sub, S.len, fun b z => S.dom b (fa b z), fun i d e n => ?_, fun i d e n => ?_, S.sep, fun a z y => S.sep0 a z (h a y)⟩
  · obtain ⟨v, h1, h2⟩ := S.val i d e n
    exact ⟨v, h1, h2.less S.dom fa⟩
  · obtain ⟨v, h1, h2⟩ := S.own i d e n
    refine ⟨v, h1, ?_⟩
    cases d with
    | lst ds => obtain ⟨a, vs, rfl, ht, hr⟩ := h2; exact ⟨a, vs, rfl, ht, hr.less S.dom fa⟩
    | dik ks ds => obtain ⟨a, vs, rfl, hl, ht, hr⟩ := h2; exact ⟨a, vs, rfl, hl, ht, hr.less S.dom fa⟩
    | dit ks ds => obtain ⟨a, vs, rfl, hl, ht, hr⟩ := h2; exact ⟨a, vs, rfl, hl, ht, hr.less S.dom fa⟩
    | non => exact h2
    | bl _ => exact h2
    | int _ => exact h2
    | str _ => exact h2
    | tup _ => exact h2
    | arg _ => exact h2
    | ftu _ => exact h2
    | tab p q => exact h2
/-- a forbidden object is written -/
theorem Sim.wr (S : Sim K P0 O W ρ σ H) {q : Addr} {o : HO} (hq : P0 q) (ho : isMut (some o)) : Sim K P0 O W ρ σ (upd H q o) := by
  have k : ∀ b u, H b = some u → ¬ FA P0 O σ b → upd H q o b = some u := fun b u e n => by rw [upd_ne fun (z : b = q) => n (.inl (by rw [z]; exact hq))]; exact e
  have ne : ∀ {i a}, i ∈ O → σ[i]? = some (some (V.ref a)) → a ≠ q := fun {i a} hi e z => S.sep0 a ⟨i, hi, e⟩ (by rw [z]; exact hq)
  refine ⟨S.sub, S.len, fun b z => ?_, fun i d e n => ?_, fun i d e n => ?_, S.sep, S.sep0⟩
  · by_cases hb : b = q
    · rw [hb, upd_same]; exact ho
    · rw [upd_ne hb]; exact S.dom b z
  · obtain ⟨v, h1, h2⟩ := S.val i d e n
    exact ⟨v, h1, h2.of_same S.dom k⟩
  · obtain ⟨v, h1, h2⟩ := S.own i d e n
    refine ⟨v, h1, ?_⟩
    cases d with
    | lst ds => obtain ⟨a, vs, rfl, ht, hr⟩ := h2; exact ⟨a, vs, rfl, by rw [upd_ne (ne n h1)]; exact ht, hr.mono ds S.dom k fun _ z => .inl z⟩
    | dik ks ds => obtain ⟨a, vs, rfl, hl, ht, hr⟩ := h2; exact ⟨a, vs, rfl, hl, by rw [upd_ne (ne n h1)]; exact ht, hr.mono ds S.dom k fun _ z => .inl z⟩
    | dit ks ds => obtain ⟨a, vs, rfl, hl, ht, hr⟩ := h2; exact ⟨a, vs, rfl, hl, by rw [upd_ne (ne n h1)]; exact ht, hr.mono ds S.dom k fun _ z => .inl z⟩
    | non => exact h2
    | bl _ => exact h2
    | int _ => exact h2
    | str _ => exact h2
    | tup _ => exact h2
    | arg _ => exact h2
    | ftu _ => exact h2
    | tab p q => obtain ⟨a, rfl, ht⟩ := h2; exact ⟨a, rfl, TabS.mono S.dom k (fun o e => by rw [upd_ne (ne n h1)]; exact e) ht⟩
end

def setAll (ρ : Env) : List Nat → List D → Env
  | i :: is, d :: ds => setAll (ρ.set i (some d)) is ds
  | _, _ => ρ
abbrev GM := D → Env → R Env
def tmName (i : Nat) : GM := fun d ρ => .ok (ρ.set i (some d))
def tmTup (is : List Nat) : GM := fun d ρ => match d with
  | .tup ds => if ds.length = is.length then .ok (setAll ρ is ds) else .stk
  | _ => .stk
def tG (K : PySem.W.Frag) (P0 : Pr) (O W : List Nat) (tm : GM) (is : List Nat) : TG := fun v σ H Q => ∃ ρ d ρ', Sim K P0 O W ρ σ H ∧ Rep K H d (FA P0 O σ) v ∧ tm d ρ = .ok ρ' ∧
  ∀ σ', Sim K P0 O W ρ' σ' H → σ'.length = σ.length → (∀ j, j ∉ is → σ'[j]? = σ[j]?) → Q σ' H
theorem PG.imp {X : Cx} {e : Expr} {t t' : TG} (h : PG X e t) (i : ∀ v σ H Q, t' v σ H Q → t v σ H Q) : PG X e t' := by
  cases h with
  | mk h => exact ⟨fun pins s σ H v u Q I r q => h pins s σ H v u Q I r (i v σ H Q q)⟩
section
variable {X : Cx} {P0 : Pr} {O W : List Nat} {pos : Pos}
abbrev CG (X : Cx) (P0 : Pr) (O W : List Nat) (tg : Expr) (tm : GM) (is : List Nat) : Prop := PG X tg (tG X.K P0 O W tm is)
theorem cg_name (i : Nat) {x : Str} (hN : X.N.Nodup) (ho : i ∉ O := by decide) (hi : X.N[i]? = some x := by rfl) (hx : Loc X.env.scope x := by first | exact Or.inl rfl | exact Or.inr rfl) (hf : X.fn x = true ∨ X.env.scope.names.lookup x = some .local := by first | exact .inl rfl | exact .inr rfl) : CG X P0 O W (.Name x pos) (tmName i) [i] :=
  PG.imp (pg_name hN hi hx hf) fun v σ H Q ⟨ρ, d, ρ', S, r, e, q⟩ => by
    cases e
    exact q _ (S.set ho r) (by simp) fun j hj => List.getElem?_set_ne fun z => hj (by simp [z])
def gNames : List Nat → TGs
  | [] => gNil
  | i :: is => gCons (gName i) (gNames is)
theorem names_ok {K : PySem.W.Frag} {H : Hp} {Q : St → Hp → Prop} : ∀ {is : List Nat} {ds : List D} {vs : List V} {ρ : Env} {σ : St}, (∀ i ∈ is, i ∉ O) → ds.length = is.length → Sim K P0 O W ρ σ H → Reps K H ds (FA P0 O σ) vs →
    (∀ σ', Sim K P0 O W (setAll ρ is ds) σ' H → σ'.length = σ.length → (∀ j, j ∉ is → σ'[j]? = σ[j]?) → Q σ' H) → gNames is vs σ H Q
  | [], [], vs, ρ, σ, _, _, S, r, q => ⟨r.nil_iff, q σ S rfl fun _ _ => rfl⟩
  | [], _ :: _, _, _, _, _, hl, _, _, _ => by simp at hl
  | _ :: _, [], _, _, _, _, hl, _, _, _ => by simp at hl
  | i :: is, d :: ds, vs, ρ, σ, ho, hl, S, r, q => by
    obtain ⟨v, ws, rfl, r1, r2⟩ := r.cons_iff
    have hi : i ∉ O := ho i (by simp)
    have S1 := S.set hi r1
    have fa : ∀ j ∈ O, (σ.set i (some v))[j]? = σ[j]? := fun j hj => List.getElem?_set_ne fun (z : i = j) => hi (by rw [z]; exact hj)
    refine ⟨v, ws, rfl, names_ok (fun j hj => ho j (by simp [hj])) (by simpa using hl) S1 (r2.less S.dom fun b z => (FA_of fa b).mp z) fun σ' S' h1 h2 => ?_⟩
    exact q σ' S' (by rw [h1]; simp) fun j hj => by
      rw [h2 j fun z => hj (by simp [z])]
      exact List.getElem?_set_ne fun z => hj (by simp [z])
theorem cg_tup {es : List Expr} {k : Nat} (is : List Nat) (hc : X.calm = true) (h : PGs X es (gNames is)) (ho : ∀ i ∈ is, i ∉ O := by decide) (hst : (assignEach es X.env).findIdx? (·.1) = none := by rfl) (hn : (assignEach es X.env).length = is.length := by rfl) : CG X P0 O W (.Tuple es k pos) (tmTup is) is :=
  PG.imp (pg_tup hc h hn hst) fun v σ H Q ⟨ρ, d, ρ', S, r, e, q⟩ => by
    unfold tmTup at e
    split at e
    · split at e
      · rename_i hl; cases e
        unfold Rep at r
        obtain ⟨a, vs, rfl, h1, h2⟩ := r
        exact ⟨a, vs, rfl, SqT.of h1, by rw [h2.length, hl], names_ok ho hl S h2 q⟩
      · cases e
    · cases e
theorem cgs_nil : PGs X [] (gNames []) := pgs_nil
theorem cgs_cons {es : List Expr} {is : List Nat} (i : Nat) {x : Str} {p : Pos} (hN : X.N.Nodup) (h2 : PGs X es (gNames is)) (hi : X.N[i]? = some x := by rfl) (hx : Loc X.env.scope x := by first | exact Or.inl rfl | exact Or.inr rfl) (hf : X.fn x = true ∨ X.env.scope.names.lookup x = some .local := by first | exact .inl rfl | exact .inr rfl) :
    PGs X (.Name x p :: es) (gNames (i :: is)) := pgs_cons (pg_name hN hi hx hf) h2
end

open Classical in
/-- the slots that are read from stay -/
noncomputable def chk (ws : List Nat) (ρ ρ' : Env) : R Unit := if ∀ w ∈ ws, ρ'[w]? = ρ[w]? then .ok () else .stk
@[simp] theorem chk_nil {ρ ρ' : Env} : chk [] ρ ρ' = .ok () := by unfold chk; rw [if_pos]; intro w hw; cases hw
theorem chk_ok {ws : List Nat} {ρ ρ' : Env} (h : chk ws ρ ρ' = .ok ()) : ∀ w ∈ ws, ρ'[w]? = ρ[w]? := by
  unfold chk at h
  split at h
  · assumption
  · cases h
noncomputable def cCompL (tm : GM) (t : BM) (e : EM) (vs ws : List Nat) : List D → Env → R (List D × Env)
  | [], ρ => .ok ([], ρ)
  | x :: xs, ρ => do
    let ρ1 ← tm x ρ
    let (k, ρ2) ← t ρ1
    if k = true then do
      let (h, ρ3) ← e ρ2
      let d ← h.v
      let _ ← chk ws ρ (wipeE ρ3 vs)
      let (ys, ρ5) ← cCompL tm t e vs ws xs (wipeE ρ3 vs)
      pure (d :: ys, ρ5)
    else do
      let _ ← chk ws ρ (wipeE ρ2 vs)
      cCompL tm t e vs ws xs (wipeE ρ2 vs)
noncomputable def cComp (im : IM) (tm : GM) (t : BM) (e : EM) (vs : List Nat) : EM := fun ρ => do
  let ((ds, ws), ρ1) ← im ρ
  let (ys, ρ2) ← (cCompL tm t e vs ws ds (wipeE ρ1 vs)).nox
  pure (.fr (.lst ys), ρ2)
def cYes : BM := fun ρ => .ok (true, ρ)
abbrev E00 : EK := fun _ _ _ => False
/-- one turn -/
inductive CStep (tm : GM) (t : BM) (e : EM) (vs ws : List Nat) (x : D) (xs : List D) (ρ : Env) (ys : List D) (ρf : Env) : Prop where
  | yes (ρ1 ρ2 ρ3 : Env) (h : Hd) (d : D) (ys' : List D) (e1 : tm x ρ = .ok ρ1) (e2 : t ρ1 = .ok (true, ρ2)) (e3 : e ρ2 = .ok (h, ρ3)) (e4 : h.v = .ok d) (e5 : chk ws ρ (wipeE ρ3 vs) = .ok ()) (e6 : cCompL tm t e vs ws xs (wipeE ρ3 vs) = .ok (ys', ρf)) (e7 : ys = d :: ys')
  | no (ρ1 ρ2 : Env) (e1 : tm x ρ = .ok ρ1) (e2 : t ρ1 = .ok (false, ρ2)) (e5 : chk ws ρ (wipeE ρ2 vs) = .ok ()) (e6 : cCompL tm t e vs ws xs (wipeE ρ2 vs) = .ok (ys, ρf))
theorem cComp_step {tm : GM} {t : BM} {e : EM} {vs ws : List Nat} {x : D} {xs : List D} {ρ : Env} {ys : List D} {ρf : Env} (h : cCompL tm t e vs ws (x :: xs) ρ = .ok (ys, ρf)) : CStep tm t e vs ws x xs ρ ys ρf := by
  unfold cCompL at h
  obtain ⟨ρ1, e1, h⟩ := R.ok_of h
  obtain ⟨⟨k, ρ2⟩, e2, h⟩ := R.ok_of h
  cases k with
  | true =>
    have h : (e ρ2 >>= _) = R.ok (ys, ρf) := h
    obtain ⟨⟨hd, ρ3⟩, e3, h⟩ := R.ok_of h
    obtain ⟨d, e4, h⟩ := R.ok_of h
    obtain ⟨_, e5, h⟩ := R.ok_of h
    obtain ⟨⟨ys', ρ5⟩, e6, h⟩ := R.ok_of h
    cases h
    exact .yes ρ1 ρ2 ρ3 hd d ys' e1 e2 e3 e4 e5 e6 rfl
  | false =>
    have h : (chk ws ρ (wipeE ρ2 vs) >>= _) = R.ok (ys, ρf) := h
    obtain ⟨_, e5, h⟩ := R.ok_of h
    exact .no ρ1 ρ2 e1 e2 e5 h
end Y

set_option Elab.async false
set_option linter.all false
set_option maxRecDepth 100000
namespace Y
open PySem PySem.Spec PyProof.Rows L2

theorem wipe_same {σ σ' : St} {vs : List Nat} (hl : σ'.length = σ.length) (h : ∀ j, j ∉ vs → σ'[j]? = σ[j]?) : L2.wipe σ' vs = L2.wipe σ vs := by
  apply List.ext_getElem?
  intro j
  by_cases hj : j ∈ vs
  · have q : ∀ (τ : St), (L2.wipe τ vs)[j]? = if j < τ.length then some none else none := fun τ => by
      have hlen := L2.wipe_length τ vs
      cases e : (L2.wipe τ vs)[j]? with
      | none =>
        rw [List.getElem?_eq_none_iff] at e
        rw [if_neg (by omega)]
      | some o =>
        have := (List.getElem?_eq_some_iff.mp e).1
        rw [if_pos (by omega)]
        cases o with
        | none => rfl
        | some v => exact absurd hj (wipe_some e).2
    rw [q, q, hl]
  · rw [wipe_ne hj, wipe_ne hj, h j hj]
theorem wipe_idem {σ : St} {vs : List Nat} : L2.wipe (L2.wipe σ vs) vs = L2.wipe σ vs := wipe_same (L2.wipe_length σ vs) fun j hj => wipe_ne hj
theorem wipeE_none {ρ : Env} {vs : List Nat} : ∀ i ∈ vs, ∀ d, (wipeE ρ vs)[i]? ≠ some (some d) := fun i hi d e => (wipeE_some e).2 hi
section
variable {X : Cx} {P0 : Pr} {O W : List Nat} {E : EK} {a b c e tg : Expr} {es : List Expr} {ma mb mc : EM} {ms : AM} {pos : Pos}
theorem PE.ex {e : Expr} {m : EM} (h : ∀ P0, CEx X P0 O W E e m) : PE X e (fun σ H Q => ∃ P0, tM X.K P0 O W E m σ H Q) := ⟨fun pins s σ H Q I ⟨P0, q⟩ => (h P0).run pins s σ H Q I q⟩
theorem PT.ex {e : Expr} {m : BM} (h : ∀ P0, CT X P0 O W E e m) : PT X e (fun σ H Q => ∃ P0, tMt X.K P0 O W E m σ H Q) := ⟨fun pins s σ H Q I ⟨P0, q⟩ => (h P0).run pins s σ H Q I q⟩
theorem PG.ex {e : Expr} {m : GM} {is : List Nat} (h : ∀ P0, CG X P0 O W e m is) : PG X e (fun v σ H Q => ∃ P0, tG X.K P0 O W m is v σ H Q) := by
  refine ⟨fun pins s σ H v u Q I r ⟨P0, q⟩ => ?_⟩
  cases h P0 with
  | mk h => exact h pins s σ H v u Q I r q
/-- the tests of a comprehension -/
abbrev CTs (X : Cx) (O W : List Nat) (E : EK) (ifs : List Expr) (m : BM) : Prop := PTs X ifs (fun σ H Q => ∃ P0, tMt X.K P0 O W E m σ H Q)
theorem cts_nil : CTs X O W E [] cYes := by
  cases (pts_nil (X := X)) with
  | mk h => exact ⟨fun pins s σ H Q I ⟨P0, ρ, S, q⟩ => h pins s σ H Q I (q H S .refl)⟩
theorem cts_one {m : BM} (h : ∀ P0, CT X P0 O W E c m) : CTs X O W E [c] m := pts_one (PT.ex h)
theorem comp_core {K : PySem.W.Frag} {im : IM} {tm : GM} {t : BM} {me : EM} {is vs : List Nat} (hv : ∀ i ∈ is, i ∈ vs) (ho : ∀ i ∈ vs, i ∉ O) (σ : St) (H : Hp) (Q : VK) (h : tM K P0 O W E (cComp im tm t me vs) σ H Q) :
    tLc (tMi K P0 O W E im) (fun v σ H Q => ∃ P0, tG K P0 O W tm is v σ H Q) (fun σ H Q => ∃ P0, tMt K P0 O W E00 t σ H Q) (fun σ H Q => ∃ P0, tM K P0 O W E00 me σ H Q) vs σ H Q := by
  obtain ⟨ρ, S, h⟩ := h
  refine ⟨ρ, S, h.of_bind.mono fun ⟨⟨ds, ws⟩, ρ1⟩ q J H1 Ok S1 k1 src ok hz Dn hD => ?_⟩
  obtain ⟨⟨ys, ρf⟩, er, q⟩ := q.of_nox
  have src : Src K O W ds ws J Ok := src
  have hz : ds.length ≤ sizeLine := hz
  generalize hP : (fun b => P0 b ∨ b = Dn : Pr) = P1
  have pD : P1 Dn := by subst hP; exact .inr rfl
  have pI : ∀ b, P0 b → P1 b := by subst hP; exact fun b z => .inl z
  have pO : ∀ b, P1 b → P0 b ∨ b = Dn := by subst hP; exact fun b z => z
  have S2 : Sim K P1 O W ρ1 σ (upd H1 Dn (.lst [])) := by subst hP; exact S1.more hD
  have ok2 : Ok P1 ρ1 σ (upd H1 Dn (.lst [])) := src.grow P0 _ ρ1 σ H1 _ S1 (fun b z => (pO b z).elim .inl fun z => .inr (by rw [z]; exact hD)) (Same.new hD) ok
  have wO : ∀ w ∈ ws, w ∉ vs := fun w hw z => ho w z (src.mem _ _ _ _ ok w hw)
  have sO : ∀ i ∈ O, (L2.wipe σ vs)[i]? = σ[i]? := fun i hi => wipe_ne fun y => ho i y hi
  have S3 : Sim K P1 O W (wipeE ρ1 vs) (L2.wipe σ vs) (upd H1 Dn (.lst [])) := S2.wipe2 ho
  have nD : ¬ OA O (L2.wipe σ vs) Dn := fun z => (S1.dom Dn (.inr ((OA_of sO Dn).mp z))).some hD
  have ok3 : Ok P1 (wipeE ρ1 vs) (L2.wipe σ vs) (upd H1 Dn (.lst [])) := src.keep P1 ρ1 σ _ _ _ _ S2 (fun _ _ e _ => e) (fun b z => .inl ((FA_of sO b).mp z)) (fun w hw => ⟨wipe_ne (wO w hw), by
    cases e : (wipeE ρ1 vs)[w]? with
    | none =>
      have : ρ1.length ≤ w := by rw [← wipeE_length ρ1 vs]; exact List.getElem?_eq_none_iff.mp e
      rw [List.getElem?_eq_none this]
    | some o =>
      have q2 : ∀ (is : List Nat), w ∉ is → (wipeE ρ1 is)[w]? = ρ1[w]? := fun is => by
        induction is with
        | nil => intro _; rfl
        | cons i is ih =>
          intro hn
          simp only [List.mem_cons, not_or] at hn
          unfold wipeE
          rw [List.getElem?_set_ne fun z => hn.1 z.symm]
          exact ih hn.2
      rw [← e, q2 vs (wO w hw)]⟩) ok2
  -- the invariant
  let I : Nat → Hp → Prop := fun i Hx => i ≤ ds.length ∧ ∃ (ρx : Env) (acc : List V) (yd rest : List D), Sim K P1 O W ρx (L2.wipe σ vs) Hx ∧ Ok P1 ρx (L2.wipe σ vs) Hx ∧ Hx Dn = some (.lst acc) ∧ Reps K Hx yd (FA P1 O (L2.wipe σ vs)) acc ∧ acc.length ≤ i ∧
    cCompL tm t me vs ws (ds.drop i) ρx = .ok (rest, ρf) ∧ ys = yd ++ rest ∧ (∀ b o, H1 b = some o → ¬ OA W σ b → Hx b = some o) ∧ (∀ b, H1 b ≠ none → Hx b ≠ none) ∧ (∀ j ∈ vs, ∀ d, ρx[j]? ≠ some (some d))
  refine ⟨fun i m Hx => m = ds.length - i ∧ I i Hx, ⟨ds.length, by simp, Nat.zero_le _, wipeE ρ1 vs, [], [], ys, S3, ok3, upd_same, Reps.nil, Nat.le_refl _, er, rfl, fun b o e _ => Same.new hD b o e, fun b e => Same.some (Same.new hD) b e, wipeE_none⟩, ?_⟩
  rintro i m Hx ⟨rfl, hi, ρx, acc, yd, rest, Sx, okx, hDx, hR, hacc, hC, hys, kx, sx, nx⟩
  by_cases hlt : i < ds.length
  · right
    refine ⟨src.go P1 i ρx _ Hx Sx okx hlt, I (i + 1), fun H' p' => ⟨ds.length - (i + 1), by omega, rfl, p'⟩, fun x' H' y => ?_⟩
    obtain ⟨sm, rx⟩ := src.yld P1 i ρx _ Hx x' H' ds[i] Sx okx (List.getElem?_eq_getElem hlt) y
    rw [List.drop_eq_getElem_cons hlt] at hC
    have back : ∀ {σ2 : St}, σ2.length = (L2.wipe σ vs).length → (∀ j, j ∉ is → σ2[j]? = (L2.wipe σ vs)[j]?) → L2.wipe σ2 vs = L2.wipe σ vs ∧ ∀ j ∈ O, σ2[j]? = (L2.wipe σ vs)[j]? := fun {σ2} h1 h2 =>
      ⟨(wipe_same h1 fun j hj => h2 j fun z => hj (hv j z)).trans wipe_idem, fun j hj => h2 j fun z => ho j (hv j z) hj⟩
    -- from the turn's end to the next turn
    have next : ∀ {σ2 : St} {ρ3 : Env} {H4 : Hp} {acc' : List V} {yd' rest' : List D}, σ2.length = (L2.wipe σ vs).length → (∀ j, j ∉ is → σ2[j]? = (L2.wipe σ vs)[j]?) → Sim K P1 O W ρ3 σ2 H4 → Keep W σ2 H' H4 →
        (∀ w ∈ ws, (wipeE ρ3 vs)[w]? = ρx[w]?) → Reps K H4 yd' (FA P1 O σ2) acc' → acc'.length ≤ i + 1 → cCompL tm t me vs ws (ds.drop (i + 1)) (wipeE ρ3 vs) = .ok (rest', ρf) → ys = yd' ++ rest' → I (i + 1) (upd H4 Dn (.lst acc')) := by
      intro σ2 ρ3 H4 acc' yd' rest' h1 h2 S4 k4 hw r' hl' hc' hy'
      obtain ⟨b1, b2⟩ := back h1 h2
      have nD2 : ¬ OA O σ2 Dn := fun z => nD ((OA_of b2 Dn).mp z)
      have S5 := S4.wipe2 (is := vs) ho
      rw [b1] at S5
      have S6 := S5.wr (o := .lst acc') pD trivial
      have kp : ∀ b o, Hx b = some o → ¬ FA P1 O (L2.wipe σ vs) b → upd H4 Dn (.lst acc') b = some o := fun b o e n => by
        rw [upd_ne fun z => n (.inl (by rw [z]; exact pD))]
        exact k4.keep b o (sm b o e) fun z => n (.inr ((OA_of b2 b).mp (S4.oaw z)))
      refine ⟨hlt, wipeE ρ3 vs, acc', yd', rest', S6, src.keep P1 ρx _ Hx _ _ _ Sx kp (fun b z => .inl z) (fun w hw' => ⟨rfl, hw w hw'⟩) okx, upd_same, ?_, hl', hc', hy', fun b o e n => ?_, fun b e => ?_, wipeE_none⟩
      · refine r'.mono yd' S4.dom (fun b o e n => ?_) fun b z => .inl ((FA_of b2 b).mpr z)
        rw [upd_ne fun z => n (.inl (by rw [z]; exact pD))]
        exact e
      · have hb : b ≠ Dn := ne_of_none e hD
        rw [upd_ne hb]
        exact k4.keep b o (sm b o (kx b o e n)) fun z => n ((OA_of (fun i hi => sO i (S1.sub i hi)) b).mp ((OA_of (fun i hi => b2 i (S1.sub i hi)) b).mp z))
      · by_cases hb : b = Dn
        · rw [hb, upd_same]; intro z; cases z
        · rw [upd_ne hb]
          exact k4.some b (Same.some sm b (sx b e))
    cases cComp_step hC with
    | yes ρa ρb ρc hd d ys' e1 e2 e3 e4 e5 e6 e7 =>
      refine ⟨P1, ρx, ds[i], ρa, Sx.same sm, rx, e1, fun σ2 Sa h1 h2 => ⟨(back h1 h2).1, P1, ρa, Sa, ?_⟩⟩
      rw [e2]
      intro H3 Sb k3
      refine (if_pos rfl).mpr ⟨P1, ρb, Sb, ?_⟩
      rw [e3]
      intro y' H4 Sc k4 r4
      have b2 := (back h1 h2).2
      have nD2 : ¬ OA O σ2 Dn := fun z => nD ((OA_of b2 Dn).mp z)
      have k34 : Keep W σ2 H' H4 := k3.trans k4
      refine ⟨acc, k34.keep _ _ (sm _ _ hDx) fun z => nD2 (Sc.oaw z), by omega, ?_⟩
      have r5 : Reps K H4 yd (FA P1 O σ2) acc := hR.mono yd Sx.dom (fun b o e n => k34.keep b o (sm b o e) fun z => n (.inr ((OA_of b2 b).mp (Sc.oaw z)))) fun b z => .inl ((FA_of b2 b).mp z)
      exact next h1 h2 Sc k34 (chk_ok e5) (r5.append (Reps.cons (r4.v e4) Reps.nil)) (by simp; omega) e6 (by rw [hys, e7]; simp)
    | no ρa ρb e1 e2 e5 e6 =>
      refine ⟨P1, ρx, ds[i], ρa, Sx.same sm, rx, e1, fun σ2 Sa h1 h2 => ⟨(back h1 h2).1, P1, ρa, Sa, ?_⟩⟩
      rw [e2]
      intro H3 Sb k3
      refine (if_neg Bool.false_ne_true).mpr ?_
      have b2 := (back h1 h2).2
      have nD2 : ¬ OA O σ2 Dn := fun z => nD ((OA_of b2 Dn).mp z)
      have r5 : Reps K H3 yd (FA P1 O σ2) acc := hR.mono yd Sx.dom (fun b o e n => k3.keep b o (sm b o e) fun z => n (.inr ((OA_of b2 b).mp (Sb.oaw z)))) fun b z => .inl ((FA_of b2 b).mp z)
      have hD3 : H3 Dn = some (.lst acc) := k3.keep _ _ (sm _ _ hDx) fun z => nD2 (Sb.oaw z)
      have fin := next h1 h2 Sb k3 (chk_ok e5) r5 (by omega) e6 hys
      have e : upd H3 Dn (.lst acc) = H3 := by
        funext b
        unfold upd
        split
        · rename_i z; rw [z, hD3]
        · rfl
      rw [e] at fin
      exact fin
  · left
    have ei : i = ds.length := by omega
    subst ei
    refine ⟨src.stop P1 ρx _ Hx Sx okx, ?_⟩
    rw [List.drop_length] at hC
    have hC : (R.ok (([] : List D), ρx)) = R.ok (rest, ρf) := hC
    cases hC
    rw [List.append_nil] at hys
    subst hys
    have kH : Keep W σ H1 Hx := ⟨kx, sx⟩
    refine q (.ref Dn) Hx ((Sx.lessP pI).out ho nx) (k1.trans kH) ⟨?_, fun _ a e => ?_⟩
    · unfold Rep
      refine ⟨Dn, acc, rfl, fun z => (S1.dom Dn z).some hD, hDx, hR.less Sx.dom fun b z => ?_⟩
      rcases z with z | z
      · exact (FA_of sO b).mpr (z.imp (pI b) id)
      · rw [z]; exact .inl pD
    · cases e
      exact Classical.byContradiction fun z => k1.some Dn z hD
theorem ce_comp {elt iter : Expr} {ifs : List Expr} {scope : Scope} {own : List (Str × Nat)} {im : IM} {tm : GM} {t : BM} {me : EM} {is : List Nat} (hc : X.calm = true) (hN : X.N.Nodup) (hi : CI X P0 O W E tg iter im) (ok : BlkOk X.N X.env.scope scope own)
    (hg : ∀ (P0 : Pr) (s : Shared) (H : Hp) (C : Addr) (cl : List (Str × Addr)) (fp : List Addr), CG (X.blk s H scope (compEnvC scope cl C X.env) fp) P0 O W tg tm is)
    (ht : ∀ (s : Shared) (H : Hp) (C : Addr) (cl : List (Str × Addr)) (fp : List Addr), CTs (X.blk s H scope (compEnvC scope cl C X.env) fp) O W E00 ifs t)
    (he : ∀ (P0 : Pr) (s : Shared) (H : Hp) (C : Addr) (cl : List (Str × Addr)) (fp : List Addr), CEx (X.blk s H scope (compEnvC scope cl C X.env) fp) P0 O W E00 elt me)
    (hv : ∀ i ∈ is, i ∈ own.map (·.2) := by decide) (ho : ∀ i ∈ own.map (·.2), i ∉ O := by decide) (hs : ∀ x, foldedSetIterable iter X.env x = pure x := by intro _; rfl) :
    CEx X P0 O W E (.ListComp elt [⟨tg, iter, ifs, 0⟩] scope pos) (cComp im tm t me (own.map (·.2))) :=
  PE.imp (pe_lc hc hN hi ok (fun s H C cl fp => PG.ex fun P0 => hg P0 s H C cl fp) ht (fun s H C cl fp => PE.ex fun P0 => he P0 s H C cl fp) hs) (comp_core hv ho)
end
end Y

set_option Elab.async false
set_option linter.all false
set_option maxRecDepth 100000
namespace Y
open PySem PySem.Spec PyProof.Rows L2

mutual
def D.nl : D → Bool
  | .non => true
  | .bl _ => true
  | .int _ => true
  | .str _ => true
  | .tup ds => nls ds
  | .ftu ds => nls ds
  | _ => false
def nls : List D → Bool
  | [] => true
  | d :: ds => d.nl && nls ds
end
/-- a list, a dict of such -/
def D.shallow : D → Bool
  | .lst ds => nls ds
  | .dik _ ds => nls ds
  | .dit _ ds => nls ds
  | .tab _ _ => true
  | d => d.nl
section
variable {K : PySem.W.Frag} {H : Hp}
mutual
theorem Rep.nl : ∀ {d : D} {P P' : Pr} {v : V}, d.nl = true → Rep K H d P v → Rep K H d P' v
  | .non, _, _, _, _, h => by unfold Rep at h ⊢; exact h
  | .bl _, _, _, _, _, h => by unfold Rep at h ⊢; exact h
  | .int _, _, _, _, _, h => by unfold Rep at h ⊢; exact h
  | .str _, _, _, _, _, h => by unfold Rep at h ⊢; exact h
  | .tup ds, P, P', v, n, h => by
    unfold Rep at h ⊢
    obtain ⟨a, vs, e, h1, h2⟩ := h
    exact ⟨a, vs, e, h1, Reps.nl (by unfold D.nl at n; exact n) h2⟩
  | .ftu ds, P, P', v, n, h => by
    unfold Rep at h ⊢
    obtain ⟨a, vs, o, e, h1, hd, h2⟩ := h
    exact ⟨a, vs, o, e, h1, hd, Reps.nl (by unfold D.nl at n; exact n) h2⟩
  | .tab _ _, _, _, _, n, _ => by simp [D.nl] at n
  | .lst _, _, _, _, n, _ => by simp [D.nl] at n
  | .arg _, _, _, _, n, _ => by simp [D.nl] at n
  | .dik _ _, _, _, _, n, _ => by simp [D.nl] at n
  | .dit _ _, _, _, _, n, _ => by simp [D.nl] at n
theorem Reps.nl : ∀ {ds : List D} {P P' : Pr} {vs : List V}, nls ds = true → Reps K H ds P vs → Reps K H ds P' vs
  | [], _, _, _, _, h => by rw [h.nil_iff]; exact Reps.nil
  | d :: ds, P, P', vs, n, h => by
    obtain ⟨v, ws, rfl, h1, h2⟩ := h.cons_iff
    unfold nls at n
    rw [Bool.and_eq_true] at n
    exact Reps.cons (Rep.nl n.1 h1) (Reps.nl n.2 h2)
end
theorem RepO.shallow {d : D} {P P' : Pr} {v : V} (n : d.shallow = true) (h : RepO K H d P v) : RepO K H d P' v := by
  cases d with
  | lst ds => obtain ⟨a, vs, e, h1, h2⟩ := h; exact ⟨a, vs, e, h1, h2.nl n⟩
  | dik ks ds => obtain ⟨a, vs, e, hl, h1, h2⟩ := h; exact ⟨a, vs, e, hl, h1, h2.nl n⟩
  | dit ks ds => obtain ⟨a, vs, e, hl, h1, h2⟩ := h; exact ⟨a, vs, e, hl, h1, h2.nl n⟩
  | non => exact h
  | bl _ => exact h
  | int _ => exact h
  | str _ => exact h
  | tup _ => exact h
  | arg _ => exact h
  | ftu _ => exact h
  | tab _ _ => exact h
theorem RepO.mono {H' : Hp} {d : D} {P P' : Pr} {v : V} (hm : ∀ b, P b → isMut (H b)) (k : ∀ b o, H b = some o → ¬ P b → H' b = some o) (hp : ∀ b, P' b → P b ∨ H b = none) (hk : ∀ a o, v = .ref a → H a = some o → H' a = some o) (h : RepO K H d P v) : RepO K H' d P' v := by
  cases d with
  | lst ds => obtain ⟨a, vs, e, h1, h2⟩ := h; exact ⟨a, vs, e, hk a _ e h1, h2.mono ds hm k hp⟩
  | dik ks ds => obtain ⟨a, vs, e, hl, h1, h2⟩ := h; exact ⟨a, vs, e, hl, hk a _ e h1, h2.mono ds hm k hp⟩
  | dit ks ds => obtain ⟨a, vs, e, hl, h1, h2⟩ := h; exact ⟨a, vs, e, hl, hk a _ e h1, h2.mono ds hm k hp⟩
  | non => exact h
  | bl _ => exact h
  | int _ => exact h
  | str _ => exact h
  | tup _ => exact h
  | arg _ => exact h
  | ftu _ => exact h
  | tab p q => obtain ⟨a, e, ht⟩ := h; exact ⟨a, e, TabS.mono hm k (fun o e2 => hk a o e e2) ht⟩
end
open Classical in
/-- what is known of the slots is what was known; or, of own slots, it holds no lists -/
noncomputable def chkO (O W : List Nat) (ρ ρ' : Env) : R Unit := if ∀ (j : Nat) d, ρ'[j]? = some (some d) → (ρ[j]? = some (some d) ∧ j ∉ W) ∨ (j ∈ O ∧ d.shallow = true) ∨ d.nl = true then .ok () else .stk
theorem chkO_ok {O W : List Nat} {ρ ρ' : Env} (h : chkO O W ρ ρ' = .ok ()) : ∀ (j : Nat) d, ρ'[j]? = some (some d) → (ρ[j]? = some (some d) ∧ j ∉ W) ∨ (j ∈ O ∧ d.shallow = true) ∨ d.nl = true := by
  unfold chkO at h
  split at h
  · assumption
  · cases h
@[simp] theorem chkO_same {O : List Nat} {ρ : Env} : chkO O [] ρ ρ = .ok () := by unfold chkO; rw [if_pos fun j d e => .inl ⟨e, by simp⟩]
/-- what an own slot may take -/
def D.ownable : D → Bool
  | .lst _ => true
  | .non => true
  | .bl _ => true
  | .int _ => true
  | .str _ => true
  | _ => false
section
variable {K : PySem.W.Frag} {P0 P1 : Pr} {O W : List Nat} {ρ ρ' : Env} {σ σ' : St} {H H' : Hp} {d : D} {v : V}
/-- an own slot's object is written -/
theorem Sim.ownW (S : Sim K P0 O W ρ σ H) {i : Nat} {a : Addr} {o : HO} (hi : i ∈ O) (ha : σ[i]? = some (some (.ref a))) (ho : isMut (some o)) (r : RepO K (upd H a o) d (FA P0 O σ) (.ref a)) : Sim K P0 O W (ρ.set i (some d)) σ (upd H a o) := by
  have pa : FA P0 O σ a := .inr ⟨i, hi, ha⟩
  have k : ∀ b u, H b = some u → ¬ FA P0 O σ b → upd H a o b = some u := fun b u e n => by rw [upd_ne fun z => n (by rw [z]; exact pa)]; exact e
  refine ⟨S.sub, by simpa using S.len, fun b z => ?_, fun j d' e n => ?_, fun j d' e n => ?_, S.sep, S.sep0⟩
  · by_cases hb : b = a
    · rw [hb, upd_same]; exact ho
    · rw [upd_ne hb]; exact S.dom b z
  · have hj : i ≠ j := fun (z : i = j) => n (by rw [← z]; exact hi)
    rw [List.getElem?_set_ne hj] at e
    obtain ⟨v, h1, h2⟩ := S.val j d' e n
    exact ⟨v, h1, h2.of_same S.dom k⟩
  · by_cases hj : i = j
    · subst hj
      have h1 : i < ρ.length := by have := (List.getElem?_eq_some_iff.mp e).1; simpa using this
      rw [List.getElem?_set_self h1] at e
      cases e
      exact ⟨_, ha, r⟩
    · rw [List.getElem?_set_ne hj] at e
      obtain ⟨v, h1, h2⟩ := S.own j d' e n
      refine ⟨v, h1, h2.mono S.dom k (fun _ z => .inl z) fun b u e1 e2 => ?_⟩
      subst e1
      rw [upd_ne fun (z : b = a) => hj (S.sep i j a hi n ha (by rw [← z]; exact h1))]
      exact e2
/-- a datum of an own slot, of a new object -/
theorem Rep.own (hm : ∀ b, FA P0 O σ b → isMut (H b)) (hd : d.ownable = true) (r : Rep K H d (FA P0 O σ) v) {P' : Pr} (hp : ∀ b, P' b → FA P0 O σ b ∨ v = .ref b) : RepO K H d P' v := by
  cases d with
  | lst ds =>
    unfold Rep at r
    obtain ⟨a, vs, rfl, h0, h1, h2⟩ := r
    exact ⟨a, vs, rfl, h1, h2.less (mutL hm h1) fun b z => (hp b z).imp id fun z => by cases z; rfl⟩
  | dik _ _ => cases hd
  | dit _ _ => cases hd
  | non => unfold Rep at r; exact r
  | bl _ => unfold Rep at r; exact r
  | int _ => unfold Rep at r; exact r
  | str _ => unfold Rep at r; exact r
  | tup _ => cases hd
  | arg _ => cases hd
  | ftu _ => cases hd
  | tab _ _ => cases hd
/-- an own slot gets a new object v. S0: the state ahead of its making -/
theorem Sim.setO (S0 : Sim K P0 O W ρ σ H) (S : Sim K P0 O W ρ' σ H') (k : Keep W σ H H') (c : ∀ (j : Nat) d, ρ'[j]? = some (some d) → (ρ[j]? = some (some d) ∧ j ∉ W) ∨ (j ∈ O ∧ d.shallow = true) ∨ d.nl = true) {i : Nat} (hi : i ∈ O)
    (new : ∀ a, v = .ref a → H a = none ∧ isMut (H' a)) (r : RepO K H' d (fun b => FA P0 O σ b ∨ v = .ref b) v) : Sim K P0 O W (ρ'.set i (some d)) (σ.set i (some v)) H' := by
  have gs : ∀ {j : Nat} {w : V}, (σ.set i (some v))[j]? = some (some w) → (j = i ∧ w = v) ∨ (j ≠ i ∧ σ[j]? = some (some w)) := fun {j w} e => by
    by_cases hj : i = j
    · subst hj
      have h1 : i < σ.length := by have := (List.getElem?_eq_some_iff.mp e).1; simpa using this
      rw [List.getElem?_set_self h1] at e
      cases e
      exact .inl ⟨rfl, rfl⟩
    · rw [List.getElem?_set_ne hj] at e
      exact .inr ⟨fun z => hj z.symm, e⟩
  have oa : ∀ b, OA O (σ.set i (some v)) b → v = .ref b ∨ OA O σ b := fun b ⟨j, hj, e⟩ => by
    rcases gs e with ⟨_, e2⟩ | ⟨_, e2⟩
    · exact .inl e2.symm
    · exact .inr ⟨j, hj, e2⟩
  have fa0 : ∀ b, FA P0 O (σ.set i (some v)) b → FA P0 O σ b ∨ H b = none := fun b z => by
    rcases z with z | z
    · exact .inl (.inl z)
    · rcases oa b z with z | z
      · exact .inr (new b z).1
      · exact .inl (.inr z)
  have kf : ∀ b o, H b = some o → ¬ FA P0 O σ b → H' b = some o := fun b o e n => k.keep b o e fun z => n (.inr (S.oaw z))
  -- the new object is not what an own slot held
  have apart : ∀ a, v = .ref a → ¬ FA P0 O σ a := fun a e z => (S0.dom a z).some (new a e).1
  refine ⟨S.sub, by simpa using S.len, fun b z => ?_, fun j d' e n => ?_, fun j d' e n => ?_, fun x y a hx hy e1 e2 => ?_, fun a z y => ?_⟩
  · rcases z with z | z
    · exact S.dom b (.inl z)
    · rcases oa b z with z | z
      · exact (new b z).2
      · exact S.dom b (.inr z)
  · have hj : i ≠ j := fun (z : i = j) => n (by rw [← z]; exact hi)
    rw [List.getElem?_set_ne hj] at e ⊢
    rcases c j d' e with ⟨e0, _⟩ | ⟨z, _⟩ | nl
    · obtain ⟨w, h1, h2⟩ := S0.val j d' e0 n
      exact ⟨w, h1, h2.mono d' S0.dom kf fa0⟩
    · exact absurd z n
    · obtain ⟨w, h1, h2⟩ := S.val j d' e n
      exact ⟨w, h1, h2.nl nl⟩
  · by_cases hj : i = j
    · subst hj
      have h1 : i < ρ'.length := by have := (List.getElem?_eq_some_iff.mp e).1; simpa using this
      rw [List.getElem?_set_self h1] at e
      cases e
      refine ⟨v, List.getElem?_set_self (Nat.lt_of_lt_of_le h1 S.len), ?_⟩
      have r' := r
      refine r'.mono (P := fun b => FA P0 O σ b ∨ v = .ref b) (fun b z => z.elim (S.dom b) fun z => (new b z).2) (fun _ _ e _ => e) (fun b z => ?_) fun _ _ _ e => e
      rcases z with z | z
      · exact .inl (.inl (.inl z))
      · exact .inl ((oa b z).elim .inr fun z => .inl (.inr z))
    · rw [List.getElem?_set_ne hj] at e ⊢
      rcases c j d' e with ⟨e0, hw⟩ | ⟨_, sh⟩ | nl
      · obtain ⟨w, h1, h2⟩ := S0.own j d' e0 n
        refine ⟨w, h1, h2.mono S0.dom kf fa0 fun a o e1 e2 => ?_⟩
        subst e1
        refine k.keep a o e2 fun ⟨x, hx, ex⟩ => ?_
        have := S0.sep x j a (S0.sub x hx) n ex h1
        exact hw (this ▸ hx)
      · obtain ⟨w, h1, h2⟩ := S.own j d' e n
        exact ⟨w, h1, h2.shallow sh⟩
      · obtain ⟨w, h1, h2⟩ := S.own j d' e n
        refine ⟨w, h1, ?_⟩
        cases d' <;> first | exact h2 | (simp [D.nl] at nl)
  · rcases gs e1 with ⟨f1, g1⟩ | ⟨f1, g1⟩
    · rcases gs e2 with ⟨f2, g2⟩ | ⟨f2, g2⟩
      · rw [f1, f2]
      · exact absurd (.inr ⟨y, hy, g2⟩) (apart a g1.symm)
    · rcases gs e2 with ⟨f2, g2⟩ | ⟨f2, g2⟩
      · exact absurd (.inr ⟨x, hx, g1⟩) (apart a g2.symm)
      · exact S.sep x y a hx hy g1 g2
  · rcases oa a z with z | z
    · exact apart a z (.inl y)
    · exact S.sep0 a z y
end

inductive Fl where
  | nx | bk | ct | rt (h : Hd)
abbrev SM := Env → R (Fl × Env)
def Fin (K : PySem.W.Frag) (P0 : Pr) (O : List Nat) (Hs : Hp) (D : Ends) (σ : St) (H : Hp) : Fl → Prop
  | .nx => D.nx σ H
  | .bk => D.bk σ H
  | .ct => D.ct σ H
  | .rt h => ∀ v, HdR K P0 O Hs σ H h v → D.rt v H
def tSt (K : PySem.W.Frag) (P0 : Pr) (O W U : List Nat) (E : EK) (m : SM) : TS := fun D σ H => ∃ ρ, Sim K P0 O W ρ σ H ∧
  Res E O σ H (m ρ) fun a => ∀ σ' H', Sim K P0 O W a.2 σ' H' → Tr O U σ H σ' H' → σ'.length = σ.length → Fin K P0 O H D σ' H' a.1
section
variable {E : EK} {O W U : List Nat} {σ σ1 : St} {H H1 : Hp} {α β : Type}
theorem Keep.up (hs : ∀ i ∈ W, i ∈ O) (k : Keep W σ H H1) : Keep O σ H H1 := ⟨fun b o e n => k.keep b o e fun ⟨i, hi, z⟩ => n ⟨i, hs i hi, z⟩, k.some⟩
theorem Res.down (hs : ∀ i ∈ W, i ∈ O) {r : R α} {k : α → Prop} (h : Res E O σ H r k) : Res E W σ H r k := by
  cases r with
  | ok a => exact h
  | er c ds => exact fun H' kp => h H' (kp.up hs)
  | stk => exact h
theorem Keep.afterT {H2 : Hp} (t : Tr O U σ H σ1 H1) (k : Keep O σ1 H1 H2) : Keep O σ H H2 where
  keep := fun b o e n => k.keep b o (t.keep b o e n) fun z => by
    rcases t.own b z with z | z
    · exact n z
    · rw [e] at z; cases z
  some := fun b e => k.some b (t.some b e)
theorem Res.keepT {r : R α} {k : α → Prop} (h : Res E O σ H r k) (t : Tr O U σ H σ1 H1) : Res E O σ1 H1 r k := by
  cases r with
  | ok a => exact h
  | er c ds => exact fun H' kp => h H' (kp.afterT t)
  | stk => exact h
end
section
variable {X : Cx} {P0 : Pr} {O W U : List Nat} {E : EK} {a b c e tg : Expr} {es : List Expr} {ma mb mc : EM} {ms : AM} {pos : Pos} {st : Stmt} {sts : List Stmt} {m n : SM}
abbrev CS (X : Cx) (P0 : Pr) (O W U : List Nat) (E : EK) (st : Stmt) (m : SM) : Prop := PS X st (tSt X.K P0 O W U E m)
abbrev CSs (X : Cx) (P0 : Pr) (O W U : List Nat) (E : EK) (sts : List Stmt) (m : SM) : Prop := PSs X sts (tSt X.K P0 O W U E m)
def sSkip : SM := fun ρ => .ok (.nx, ρ)
def sSeq (m n : SM) : SM := fun ρ => do
  let (f, ρ1) ← m ρ
  match f with
  | .nx => n ρ1
  | f => pure (f, ρ1)
theorem cs_nil : CSs X P0 O W U E [] sSkip := PSs.imp pss_nil fun D σ H ⟨ρ, S, h⟩ => h σ H S .refl rfl
theorem cs_one (h : CS X P0 O W U E st m) : CSs X P0 O W U E [st] m := pss_one h
theorem cs_cons (h : CS X P0 O W U E st m) (h2 : CSs X P0 O W U E sts n) : CSs X P0 O W U E (st :: sts) (sSeq m n) := PSs.imp (pss_cons h h2) fun D σ H ⟨ρ, S, h⟩ =>
  ⟨ρ, S, h.of_bind.mono fun ⟨f, ρ1⟩ q σ1 H1 S1 t1 l1 => by
    cases f with
    | nx =>
      refine ⟨ρ1, S1, (Res.keepT (show Res E O σ H (n ρ1) _ from q) t1).mono fun ⟨f2, ρ2⟩ q2 σ2 H2 S2 t2 l2 => ?_⟩
      have q3 := q2 σ2 H2 S2 (t1.trans t2) (l2.trans l1)
      cases f2 with
      | nx => exact q3
      | bk => exact q3
      | ct => exact q3
      | rt hd => exact fun v r => q3 v (r.back t1.some)
    | bk => exact q σ1 H1 S1 t1 l1
    | ct => exact q σ1 H1 S1 t1 l1
    | rt hd => exact q σ1 H1 S1 t1 l1⟩
def sRet (m : EM) : SM := fun ρ => do
  let (h, ρ1) ← m ρ
  pure (.rt h, ρ1)
theorem cs_ret (h : CEx X P0 O W E e ma) : CS X P0 O W U E (.Return (some e) pos) (sRet ma) := PS.imp (ps_ret h) fun D σ H ⟨ρ, S, h⟩ =>
  ⟨ρ, S, (h.of_bind.down S.sub).mono fun ⟨hd, ρ1⟩ q v H1 S1 k1 r1 => q σ H1 S1 (Tr.of S.sub k1) rfl v r1⟩
def sIf (t : BM) (m n : SM) : SM := fun ρ => do
  let (k, ρ1) ← t ρ
  if k = true then m ρ1 else n ρ1
theorem Fin.back {K : PySem.W.Frag} {Hs Hs' : Hp} {D : Ends} {σ : St} {H : Hp} {f : Fl} (k : ∀ b, Hs b ≠ none → Hs' b ≠ none) (h : Fin K P0 O Hs D σ H f) : Fin K P0 O Hs' D σ H f := by
  cases f with
  | rt hd => exact fun v r => h v (r.back k)
  | nx => exact h
  | bk => exact h
  | ct => exact h
theorem cs_if {t : BM} {xs ys : List Stmt} (hc : CT X P0 O W E c t) (h1 : CSs X P0 O W U E xs m) (h2 : CSs X P0 O W U E ys n) : CS X P0 O W U E (.If c xs ys pos) (sIf t m n) := PS.imp (ps_if hc h1 h2) fun D σ H ⟨ρ, S, h⟩ =>
  ⟨ρ, S, (h.of_bind.down S.sub).mono fun ⟨k, ρ1⟩ q H1 S1 k1 => by
    cases k with
    | true =>
      exact (if_pos rfl).mpr ⟨ρ1, S1, (Res.keepT (show Res E O σ H (m ρ1) _ from q) (Tr.of (U := U) S.sub k1)).mono fun ⟨f2, ρ2⟩ q2 σ2 H2 S2 t2 l2 => (q2 σ2 H2 S2 ((Tr.of S.sub k1).trans t2) l2).back fun b e => k1.some b e⟩
    | false =>
      exact (if_neg Bool.false_ne_true).mpr ⟨ρ1, S1, (Res.keepT (show Res E O σ H (n ρ1) _ from q) (Tr.of (U := U) S.sub k1)).mono fun ⟨f2, ρ2⟩ q2 σ2 H2 S2 t2 l2 => (q2 σ2 H2 S2 ((Tr.of S.sub k1).trans t2) l2).back fun b e => k1.some b e⟩⟩
end
end Y

set_option Elab.async false
set_option linter.all false
set_option maxRecDepth 100000
namespace Y
open PySem PySem.Spec PyProof.Rows L2
section
variable {K : PySem.W.Frag} {X : Cx} {P0 : Pr} {O W U : List Nat} {E : EK} {a b c e tg iter : Expr} {es : List Expr} {ma mb mc : EM} {ms : AM} {pos : Pos} {st : Stmt} {sts : List Stmt} {m n : SM}
def sAsg (m : EM) (tm : GM) : SM := fun ρ => do
  let (h, ρ1) ← m ρ
  let d ← h.v.nox
  let ρ2 ← (tm d ρ1).nox
  pure (.nx, ρ2)
theorem Tr.slots {is : List Nat} {σ σ' : St} {H : Hp} (ho : ∀ i ∈ is, i ∉ O) (hu : ∀ i ∈ U, i ∈ O) (h : ∀ j, j ∉ is → σ'[j]? = σ[j]?) : Tr O U σ H σ' H :=
  ⟨fun _ _ e _ => e, fun _ e => e, fun b z => .inl ((OA_of (fun i hi => h i fun y => ho i y hi) b).mp z), fun i hi => h i fun y => ho i y (hu i hi)⟩
theorem tM_asg {tm : GM} {is : List Nat} (ho : ∀ i ∈ is, i ∉ O) (hu : ∀ i ∈ U, i ∈ O) (D : Ends) (σ : St) (H : Hp) (h : tSt K P0 O W U E (sAsg ma tm) D σ H) : tAsg (tM K P0 O W E ma) (tG K P0 O W tm is) D σ H := by
  obtain ⟨ρ, S, h⟩ := h
  refine ⟨ρ, S, (h.of_bind.down S.sub).mono fun ⟨hd, ρ1⟩ q v H1 S1 k1 r1 => ?_⟩
  obtain ⟨d, e1, q⟩ := q.of_nox
  obtain ⟨ρ2, e2, q⟩ := q.of_nox
  exact ⟨ρ1, d, ρ2, S1, r1.v e1, e2, fun σ' S' l h' => q σ' H1 S' ((Tr.of S.sub k1).trans (Tr.slots ho hu h')) l⟩
theorem cs_asg {tm : GM} {is : List Nat} (h : CEx X P0 O W E e ma) (hg : CG X P0 O W tg tm is) (ho : ∀ i ∈ is, i ∉ O := by decide) (hu : ∀ i ∈ U, i ∈ O := by decide) (hs : swapsWithSole [tg] e pos.line X.env = pure false := by rfl) (hw : swappedStores [tg] e X.env = pure none := by rfl) (h1 : (assignEach [tg] X.env).map (·.2) = [assign tg X.env] := by rfl) : CS X P0 O W U E (.Assign [tg] e pos) (sAsg ma tm) :=
  PS.imp (ps_asg h hg hs hw h1) (tM_asg ho hu)
/-- y = [.. for ..] on one line, y not captured -/
theorem cs_asgLc {i : Nat} {y : Str} {py : Pos} {elt : Expr} {ifs : List Expr} {scope : Scope} {own : List (Str × Nat)} {im : IM} {tm : GM} {t : BM} {me : EM} {is : List Nat} {p2 : Pos} (hc : X.calm = true) (hN : X.N.Nodup) (hy : X.N[i]? = some y) (hyl : X.env.scope.names.lookup y = some .local)
    (hsw : swapsWith (.ListComp elt [⟨tg, iter, ifs, 0⟩] scope pos) (some (.Name y py)) p2.line X.env = pure true) (hi : CI X P0 O W E tg iter im) (ok : BlkOk X.N X.env.scope scope own)
    (hg : ∀ (P0 : Pr) (s : Shared) (H : Hp) (C : Addr) (cl : List (Str × Addr)) (fp : List Addr), CG (X.blk s H scope (compEnvC scope cl C X.env) fp) P0 O W tg tm is)
    (ht : ∀ (s : Shared) (H : Hp) (C : Addr) (cl : List (Str × Addr)) (fp : List Addr), CTs (X.blk s H scope (compEnvC scope cl C X.env) fp) O W E00 ifs t)
    (he : ∀ (P0 : Pr) (s : Shared) (H : Hp) (C : Addr) (cl : List (Str × Addr)) (fp : List Addr), CEx (X.blk s H scope (compEnvC scope cl C X.env) fp) P0 O W E00 elt me)
    (hv : ∀ i ∈ is, i ∈ own.map (·.2) := by decide) (ho : ∀ i ∈ own.map (·.2), i ∉ O := by decide) (hi' : i ∉ O := by decide) (hu : ∀ i ∈ U, i ∈ O := by decide) (hs : ∀ x, foldedSetIterable iter X.env x = pure x := by intro _; rfl) :
    CS X P0 O W U E (.Assign [.Name y py] (.ListComp elt [⟨tg, iter, ifs, 0⟩] scope pos) p2) (sAsg (cComp im tm t me (own.map (·.2))) (tmName i)) :=
  PS.imp (ps_setLc (i := i) hc hN hy hyl hsw hi ok (fun s H C cl fp => PG.ex fun P0 => hg P0 s H C cl fp) ht (fun s H C cl fp => PE.ex fun P0 => he P0 s H C cl fp) hs) fun D σ H h => by
    have q := tM_asg (is := [i]) (by simpa using hi') hu D σ H h
    refine comp_core (im := im) (tm := tm) (t := t) (me := me) hv ho σ H _ ?_
    obtain ⟨ρ, S, q⟩ := q
    refine ⟨ρ, S, q.mono fun a q v H1 S1 k1 r1 => ?_⟩
    obtain ⟨ρ1, d, ρ2, S2, r, e, q⟩ := q v H1 S1 k1 r1
    cases e
    exact q _ (S2.set hi' r) (by simp) fun j hj => List.getElem?_set_ne fun z => hj (by simp [z])
noncomputable def sOwn (O W : List Nat) (m : EM) (i : Nat) : SM := fun ρ => do
  let (h, ρ1) ← m ρ
  match h with
  | .fr d => do
    let _ ← (chkO O W ρ ρ1).nox
    if d.ownable = true then pure (.nx, ρ1.set i (some d)) else .stk
  | _ => .stk
theorem tM_own {i : Nat} (hi : i ∈ O) (hu : i ∉ U) (D : Ends) (σ : St) (H : Hp) (h : tSt K P0 O W U E (sOwn O W ma i) D σ H) : tAsg (tM K P0 O W E ma) (gName i) D σ H := by
  obtain ⟨ρ, S, h⟩ := h
  refine ⟨ρ, S, (h.of_bind.down S.sub).mono fun ⟨hd, ρ1⟩ q v H1 S1 k1 r1 => ?_⟩
  cases hd with
  | vl d => exact q.elim
  | ow j => exact q.elim
  | fr d =>
    obtain ⟨_, e1, q⟩ := Res.of_nox (show Res E O σ H ((chkO O W ρ ρ1).nox >>= _) _ from q)
    have c := chkO_ok e1
    by_cases hd : d.ownable = true
    · rw [if_pos hd] at q
      have new : ∀ a, v = .ref a → H a = none ∧ isMut (H1 a) := fun a e => by
        subst e
        have r := r1.1
        have f := r1.2
        cases d with
        | lst ds =>
          unfold Rep at r
          obtain ⟨b, vs, e, h0, h1, h2⟩ := r
          cases e
          exact ⟨f rfl _ rfl, by rw [h1]; trivial⟩
        | non => unfold Rep at r; cases r
        | bl _ => unfold Rep at r; cases r
        | int _ => unfold Rep at r; cases r
        | str _ => unfold Rep at r; cases r
        | tup _ => cases hd
        | arg _ => cases hd
        | ftu _ => cases hd
        | tab _ _ => cases hd
        | dik _ _ => cases hd
        | dit _ _ => cases hd
      have S2 := S.setO S1 k1 c hi new (r1.1.own S1.dom hd fun b z => z)
      have gs : ∀ {b : Addr}, OA O (σ.set i (some v)) b → OA O σ b ∨ H b = none := fun {b} ⟨j, hj, e⟩ => by
        by_cases hij : i = j
        · subst hij
          have h1 : i < σ.length := by have := (List.getElem?_eq_some_iff.mp e).1; simpa using this
          rw [List.getElem?_set_self h1] at e
          cases e
          exact .inr (new b rfl).1
        · rw [List.getElem?_set_ne hij] at e
          exact .inl ⟨j, hj, e⟩
      exact q _ H1 S2 ⟨fun b o e n => k1.keep b o e fun z => n (S.oaw z), k1.some, fun b z => gs z, fun j hj => List.getElem?_set_ne fun (z : i = j) => hu (by rw [z]; exact hj)⟩ (by simp)
    · rw [if_neg hd] at q
      exact q.elim
theorem cs_own {i : Nat} {x : Str} {p : Pos} (hN : X.N.Nodup) (h : CEx X P0 O W E e ma) (hi : i ∈ O := by decide) (hu : i ∉ U := by decide) (hx : X.N[i]? = some x := by rfl) (hl : Loc X.env.scope x := by first | exact Or.inl rfl | exact Or.inr rfl) (hf : X.fn x = true ∨ X.env.scope.names.lookup x = some .local := by first | exact .inl rfl | exact .inr rfl)
    (hs : swapsWithSole [.Name x p] e pos.line X.env = pure false := by rfl) (hw : swappedStores [.Name x p] e X.env = pure none := by rfl) : CS X P0 O W U E (.Assign [.Name x p] e pos) (sOwn O W ma i) :=
  PS.imp (ps_asg h (pg_name hN hx hl hf) hs hw) (tM_own hi hu)
/-- few arguments, no stars -/
abbrev Few (X : Cx) (cp : Pos) (es : List Expr) : Prop := ((backTo cp (starEach es X.env)).all (fun x => !x.1) && (backToKw cp (keywordEach [] X.env)).all (fun x => x.1.isSome)
      && decide (es.length + ([] : List Keyword).length + (if ([] : List Keyword).isEmpty then 0 else 1) < 30)) = true
theorem Tr.ownW {i : Nat} {l : Addr} {o : HO} {σ : L2.St} {H H1 : Hp} (hs : ∀ i ∈ W, i ∈ O) (k : Keep W σ H H1) (hi : i ∈ O) (ha : σ[i]? = Option.some (Option.some (V.ref l))) : Tr O U σ H σ (upd H1 l o) where
  keep := fun b u e n => by
    rw [upd_ne fun (z : b = l) => n ⟨i, hi, by rw [z]; exact ha⟩]
    exact k.keep b u e fun ⟨j, hj, z⟩ => n ⟨j, hs j hj, z⟩
  some := fun b e => by
    by_cases hb : b = l
    · rw [hb, upd_same]; intro z; cases z
    · rw [upd_ne hb]; exact k.some b e
  own := fun _ z => .inl z
  unch := fun _ _ => rfl
/-- the list of an own slot -/
theorem Sim.lst {ρ : Env} {σ : St} {H : Hp} (S : Sim K P0 O W ρ σ H) {i : Nat} {ds : List D} (hi : i ∈ O) (e : ρ[i]? = some (some (.lst ds))) : ∃ l vs, σ[i]? = some (some (.ref l)) ∧ H l = some (.lst vs) ∧ Reps K H ds (FA P0 O σ) vs := by
  obtain ⟨v, h1, l, vs, rfl, h2, h3⟩ := S.own i _ e hi
  exact ⟨l, vs, h1, h2, h3⟩
/-- .. is given other items -/
theorem Sim.lstW {ρ : Env} {σ : St} {H : Hp} (S : Sim K P0 O W ρ σ H) {i : Nat} {l : Addr} {ds' : List D} {vs' vs : List V} (hi : i ∈ O) (ha : σ[i]? = some (some (.ref l))) (hl : H l = some (.lst vs)) (r : Reps K H ds' (FA P0 O σ) vs') : Sim K P0 O W (ρ.set i (some (.lst ds'))) σ (upd H l (.lst vs')) :=
  S.ownW hi ha trivial ⟨l, vs', rfl, upd_same, r.mono ds' S.dom (fun b o e n => by rw [upd_ne fun z => n (.inr ⟨i, hi, by rw [z]; exact ha⟩)]; exact e) fun b z => .inl z⟩
def lstAt (i : Nat) (ρ : Env) : R (List D) := match ρ[i]? with
  | some (some (.lst ds)) => .ok ds
  | _ => .stk
theorem lstAt_ok {i : Nat} {ρ : Env} {ds : List D} (h : lstAt i ρ = .ok ds) : ρ[i]? = some (some (.lst ds)) := by
  unfold lstAt at h
  split at h
  · rename_i e; cases h; exact e
  · cases h
/-- x.append(e) -/
def sAppend (i : Nat) (m : EM) : SM := fun ρ => do
  let _ ← (lstAt i ρ).nox
  let (h, ρ1) ← m ρ
  let d ← h.v.nox
  let ds ← (lstAt i ρ1).nox
  if szOk (ds.length + 1) = true then pure (.nx, ρ1.set i (some (.lst (ds ++ [d])))) else .stk
theorem tM_append {i : Nat} (hi : i ∈ O) (D : Ends) (σ : St) (H : Hp) (h : tSt K P0 O W U E (sAppend i ma) D σ H) : tDrop (tBM K "list" rAppend (tVar i) (tCons (tM K P0 O W E ma) tNil)) D σ H := by
  obtain ⟨ρ, S, h⟩ := h
  obtain ⟨ds0, e0, h⟩ := h.of_nox
  obtain ⟨l, vs0, h1, h2, _⟩ := S.lst hi (lstAt_ok e0)
  refine ⟨.ref l, h1, .inl ⟨rfl, _, SqL.of h2⟩, ρ, S, (h.of_bind.down S.sub).mono fun ⟨hd, ρ1⟩ q v H1 S1 k1 r1 => ?_⟩
  obtain ⟨d, e1, q⟩ := q.of_nox
  obtain ⟨ds, e2, q⟩ := q.of_nox
  obtain ⟨l', vs, h1', h3, h4⟩ := S1.lst hi (lstAt_ok e2)
  rw [h1] at h1'
  cases h1'
  by_cases c : szOk (ds.length + 1) = true
  · rw [if_pos c] at q
    have c := of_decide_eq_true c
    refine ⟨l, vs, v, rfl, rfl, h3, by rw [h4.length]; omega, ?_⟩
    exact q σ _ (S1.lstW hi h1 h3 (h4.append (Reps.cons (r1.v e1) Reps.nil))) (Tr.ownW S.sub k1 hi h1) rfl
  · rw [if_neg c] at q
    exact q.elim
theorem cs_append {i : Nat} {x : Str} {p ap cp : Pos} (h : CEx X P0 O W E e ma) (hi : i ∈ O := by decide) (hx : X.N[i]? = some x := by rfl) (hv : Vis X.env.scope x := by first | exact Or.inl rfl | exact Or.inr (Or.inl rfl) | exact Or.inr (Or.inr rfl)) (hd : (x == ("__debug__" : Str)) = false := by decide) (hcd : (x == ("__classdict__" : Str)) = false := by decide)
    (he : starEach [e] X.env = (false, eval e X.env) :: starEach [] X.env := by rfl) (hpl : (backTo cp (starEach [] X.env)).any (·.1) = false := by rfl) (hbase : attributeBase (.Name x p) "append" X.env (eval (.Name x p) X.env) = eval (.Name x p) X.env := by rfl) (hline : (ap.endLine == cp.line) = true := by rfl)
    (hfew : Few X cp [e] := by rfl) (hsw : swapsWith (.Call (.Attribute (.Name x p) "append" ap) [e] [] cp) none pos.line X.env = pure false := by rfl) :
    CS X P0 O W U E (.Expr (.Call (.Attribute (.Name x p) "append" ap) [e] [] cp) pos) (sAppend i ma) :=
  PS.imp (ps_expr (pe_bm PySem.F.plainAttrs_list PySem.F.slot_list_append PySem.F.type_list_append mt_append (pe_var (i := i) hx hv hd hcd) (pa_cons h pa_nil he) hbase hfew hline he hpl) hsw) (tM_append hi)
end
end Y

set_option Elab.async false
set_option linter.all false
set_option maxRecDepth 100000
namespace Y
open PySem PySem.Spec PyProof.Rows L2
section
variable {K : PySem.W.Frag} {X : Cx} {P0 : Pr} {O W U : List Nat} {E : EK} {a b c e tg iter : Expr} {es : List Expr} {ma mb mc : EM} {ms : AM} {pos : Pos} {st : Stmt} {sts : List Stmt} {m n : SM}
def sSetIx (i : Nat) (mk mv : EM) : SM := fun ρ => do
  let (h, ρ1) ← mv ρ
  let d ← h.v.nox
  let _ ← (lstAt i ρ1).nox
  let (h2, ρ2) ← mk ρ1
  let k ← h2.v.nox
  match k with
  | .int z => do
    let ds ← (lstAt i ρ2).nox
    match ixN ds.length z with
    | some j => pure (.nx, ρ2.set i (some (.lst (ds.set j d))))
    | none => .stk
  | _ => .stk
theorem Reps.set {H : Hp} {P : Pr} {d : D} {v : V} (r : Rep K H d P v) : ∀ {ds : List D} {vs : List V} (j : Nat), Reps K H ds P vs → Reps K H (ds.set j d) P (vs.set j v)
  | [], _, j, h => by rw [h.nil_iff]; exact Reps.nil
  | x :: xs, _, 0, h => by
    obtain ⟨w, ws, rfl, h1, h2⟩ := h.cons_iff
    exact Reps.cons r h2
  | x :: xs, _, j + 1, h => by
    obtain ⟨w, ws, rfl, h1, h2⟩ := h.cons_iff
    exact Reps.cons h1 (Reps.set r j h2)
theorem cs_setix {i : Nat} {x : Str} {p sp : Pos} {k : Expr} {mk : EM} (h : CEx X P0 O W E e ma) (hk : CEx X P0 O W E k mk) (hi : i ∈ O := by decide) (hx : X.N[i]? = some x := by rfl) (hv : Vis X.env.scope x := by first | exact Or.inl rfl | exact Or.inr (Or.inl rfl) | exact Or.inr (Or.inr rfl)) (hd : (x == ("__debug__" : Str)) = false := by decide) (hcd : (x == ("__classdict__" : Str)) = false := by decide)
    (hs : swapsWithSole [.Subscript (.Name x p) k sp] e pos.line X.env = pure false := by rfl) (hw : swappedStores [.Subscript (.Name x p) k sp] e X.env = pure none := by rfl) (h1 : (assignEach [.Subscript (.Name x p) k sp] X.env).map (·.2) = [assign (.Subscript (.Name x p) k sp) X.env] := by rfl)
    (hb : ∀ v, assign (.Subscript (.Name x p) k sp) X.env v = (do
      let ov ← holding [v] (eval (.Name x p) X.env)
      let iv ← holding [v, ov] (eval k X.env)
      standAt sp
      holding [v, ov, iv] (setItem ov iv v)
      release [v, ov, iv] []) := by intro _; rfl) :
    CS X P0 O W U E (.Assign [.Subscript (.Name x p) k sp] e pos) (sSetIx i mk ma) := PS.imp (ps_asg h (pg_sub (pe_var (i := i) hx hv hd hcd) hk set_list hb) hs hw h1) fun D σ H ⟨ρ, S, h⟩ => by
  refine ⟨ρ, S, (h.of_bind.down S.sub).mono fun ⟨hd, ρ1⟩ q v H1 S1 k1 r1 => ?_⟩
  obtain ⟨d, e1, q1⟩ := q.of_nox
  obtain ⟨ds0, e0, q2⟩ := q1.of_nox
  obtain ⟨l, vs0, h1, h2, _⟩ := S1.lst hi (lstAt_ok e0)
  refine ⟨.ref l, h1, ρ1, S1, ((q2.of_bind.down S1.sub).keep k1).mono fun ⟨hd2, ρ2⟩ q3 w H2 S2 k2 r2 => ?_⟩
  obtain ⟨dk, e2, q4⟩ := q3.of_nox
  have rk := r2.v e2
  cases dk <;> first | (exact q4.elim) | skip
  rename_i z
  unfold Rep at rk
  subst rk
  obtain ⟨ds, e3, q5⟩ := Res.of_nox (show Res E O σ H ((lstAt i ρ2).nox >>= _) _ from q4)
  obtain ⟨l', vs, h1', h3, h4⟩ := S2.lst hi (lstAt_ok e3)
  rw [h1] at h1'
  cases h1'
  cases ej : ixN ds.length z with
  | none => rw [ej] at q5; exact q5.elim
  | some j =>
    rw [ej] at q5
    refine ⟨l, vs, z, j, rfl, rfl, h3, by rw [h4.length]; exact ej, ?_⟩
    exact q5 σ _ (S2.lstW hi h1 h3 (Reps.set (S1.rep k2 (r1.v e1)) j h4)) (Tr.ownW S.sub (k1.trans k2) hi h1) rfl
noncomputable def forL (tm : GM) (body : SM) (vs ws : List Nat) : List D → Env → R (Fl × Env)
  | [], ρ => .ok (.nx, ρ)
  | x :: xs, ρ => do
    let ρ1 ← (tm x ρ).nox
    let (f, ρ2) ← body ρ1
    match f with
    | .bk => pure (.nx, ρ2)
    | .rt h => pure (.rt h, ρ2)
    | _ => do
      let _ ← (chk ws ρ (wipeE ρ2 vs)).nox
      forL tm body vs ws xs (wipeE ρ2 vs)
noncomputable def sFor (U : List Nat) (im : IM) (tm : GM) (body : SM) (vs : List Nat) : SM := fun ρ => do
  let ((ds, ws), ρ1) ← im ρ
  if (ws.all fun w => U.contains w) = true then forL tm body vs ws ds ρ1 else .stk
theorem for_core {im : IM} {tm : GM} {is vs U' : List Nat} (ho : ∀ i ∈ is, i ∉ O) (hu : ∀ i ∈ U', i ∈ O) (hu' : ∀ i ∈ U, i ∈ U') (D : Ends) (σ : L2.St) (H : Hp) (h : tSt X.K P0 O W U E (sFor U' im tm m vs) D σ H) : tFor (tMi X.K P0 O W E im) (tG X.K P0 O W tm is) (tSt X.K P0 O W U' E m) D σ H := by
  obtain ⟨ρ, S, h⟩ := h
  refine ⟨ρ, S, (h.of_bind.down S.sub).mono fun ⟨⟨ds, ws⟩, ρ1⟩ q J H1 Ok S1 k1 src ok hz => ?_⟩
  have src : Src X.K O W ds ws J Ok := src
  have q : Res E O σ H (if (ws.all fun w => U'.contains w) = true then forL tm m vs ws ds ρ1 else .stk) _ := q
  by_cases hw : (ws.all fun w => U'.contains w) = true
  · rw [if_pos hw] at q
    have hw : ∀ w ∈ ws, w ∈ U' := fun w hw' => by simpa using List.all_eq_true.mp hw w hw'
    have t1 : Tr O U σ H σ H1 := Tr.of S.sub k1
    let Post : Fl × Env → Prop := fun a => ∀ σ' H', Sim X.K P0 O W a.2 σ' H' → Tr O U σ H σ' H' → σ'.length = σ.length → Fin X.K P0 O H D σ' H' a.1
    let I : Nat → L2.St → Hp → Prop := fun i σx Hx => i ≤ ds.length ∧ ∃ ρx, Sim X.K P0 O W ρx σx Hx ∧ Ok P0 ρx σx Hx ∧ Tr O U σ H σx Hx ∧ σx.length = σ.length ∧ Res E O σx Hx (forL tm m vs ws (ds.drop i) ρx) Post
    refine ⟨fun i k σx Hx => k = ds.length - i ∧ I i σx Hx, ⟨ds.length, by simp, Nat.zero_le _, ρ1, S1, ok, t1, rfl, Res.keepT (show Res E O σ H (forL tm m vs ws ds ρ1) Post from q) t1⟩, ?_⟩
    rintro i k σx Hx ⟨rfl, hil, ρx, Sx, okx, tx, lx, qx⟩
    by_cases hlt : i < ds.length
    · right
      refine ⟨src.go P0 i ρx σx Hx Sx okx hlt, I (i + 1), fun σ' H' p' => ⟨ds.length - (i + 1), by omega, rfl, p'⟩, fun x' H' y => ?_⟩
      obtain ⟨sm, rx⟩ := src.yld P0 i ρx σx Hx x' H' ds[i] Sx okx (List.getElem?_eq_getElem hlt) y
      rw [List.drop_eq_getElem_cons hlt] at qx
      unfold forL at qx
      obtain ⟨ρa, e1, qx⟩ := qx.of_nox
      refine ⟨ρx, ds[i], ρa, Sx.same sm, rx, e1, fun σ2 S2 l2 ag => ?_⟩
      have t2 : Tr O U' σx Hx σ2 H' := Tr.trans (σ1 := σx) (H1 := H') ⟨fun b o e _ => sm b o e, Same.some sm, fun _ z => .inl z, fun _ _ => rfl⟩ (Tr.slots ho hu ag)
      refine ⟨ρa, S2, (Res.keepT qx.of_bind t2).mono fun ⟨f, ρ2⟩ q3 σ3 H3 S3 t3 l3 => ?_⟩
      have t4 : Tr O U' σx Hx σ3 H3 := t2.trans t3
      have t5 : Tr O U σ H σ3 H3 := tx.trans (t4.less hu')
      have l5 : σ3.length = σ.length := l3.trans (l2.trans lx)
      have next : Res E O σx Hx (do let _ ← (chk ws ρx (wipeE ρ2 vs)).nox; forL tm m vs ws (ds.drop (i + 1)) (wipeE ρ2 vs)) Post → I (i + 1) σ3 H3 := fun q4 => by
        obtain ⟨_, e4, q5⟩ := Res.of_nox (show Res E O σx Hx ((chk ws ρx (wipeE ρ2 vs)).nox >>= fun _ => forL tm m vs ws (ds.drop (i + 1)) (wipeE ρ2 vs)) Post from q4)
        refine ⟨hlt, wipeE ρ2 vs, S3.wipe vs, ?_, t5, l5, Res.keepT q5 t4⟩
        refine src.keep P0 ρx σx Hx _ σ3 H3 Sx (fun b o e n => t4.keep b o e fun z => n (.inr z)) (fun b z => ?_) (fun w hw' => ⟨t4.unch w (hw w hw'), chk_ok e4 w hw'⟩) okx
        rcases z with z | z
        · exact .inl (.inl z)
        · exact (t4.own b z).imp .inr id
      cases f with
      | nx => exact next q3
      | ct => exact next q3
      | bk => exact q3 σ3 H3 S3 t5 l5
      | rt hd =>
        intro v r
        exact q3 σ3 H3 S3 t5 l5 v (r.back fun b e => Same.some sm b (tx.some b e))
    · left
      have ei : i = ds.length := by omega
      subst ei
      rw [List.drop_length] at qx
      exact ⟨src.stop P0 ρx σx Hx Sx okx, qx σx Hx Sx tx lx⟩
  · rw [if_neg hw] at q
    exact q.elim
theorem cs_for {im : IM} {tm : GM} {is vs U' : List Nat} {xs : List Stmt} (hp : PassesOwn (model X.prog X.w) X.A X.env X.xe) (hc : X.calm = true) (hi : CI X P0 O W E tg iter im) (hg : CG X P0 O W tg tm is) (hb : CSs X P0 O W U' E xs m) (ho : ∀ i ∈ is, i ∉ O := by decide) (hu : ∀ i ∈ U', i ∈ O := by decide) (hu' : ∀ i ∈ U, i ∈ U' := by decide)
    (hs : ∀ x, foldedSetIterable iter X.env x = pure x := by intro _; rfl) : CS X P0 O W U E (.For tg iter xs [] pos) (sFor U' im tm m vs) := PS.imp (ps_for hp hc hi hg hb hs) (for_core ho hu hu')
end
end Y

set_option Elab.async false
set_option linter.all false
set_option maxRecDepth 100000
namespace Y
open PySem PySem.Spec PyProof.Rows L2

theorem passN {X : Cx} : Passes (L2N.CX X.prog X.w) X E0 := fun _ _ _ _ _ _ _ q => by
  rcases q with ⟨_, _, _, _, _, _, _, _, _, _, _, _, f⟩
  exact False.elim f
theorem okN {P : Program} {w : World} {K : PySem.W.Frag} {mg : Str → Option Value} {base : Heap} {x qual : Str} {st : Stmt} {f : Addr} {fd : FuncData} {N ps : List Str} {k : Nat} {sp : Sp} (F : Fun K x qual st f fd) (S : FnScope N ps (defScope st)) (hlen : ∀ vs H Q E, sp vs H Q E → vs.length = ps.length)
    (hb : ∀ (cdv : Value) (A : Around) (outer : List PySem.Env) (s : Shared) (H : Hp) (vs : List V) (Q : VK) (E : XK), Room k (A.deeper (envOfC qual (defScope st) s.heap.objs.size f cdv)) → sp vs H Q E →
      ∃ t, PSs (cxOf (L2N.CX P w) P w K mg base N qual (defScope st) f cdv A outer s H E) (defBody st) t ∧ t { nx := fun _ H' => Q .non H', rt := Q } (L2.start N vs) H) : FnOk P w K mg base (L2N.CX P w) (k + 1) f fd ps sp := by
  rcases F.ex with ⟨_, _, _, _, _, _, cd, _, _, rfl, look, code⟩
  exact fn_of look code S hlen fun A outer s H vs Q E => hb cd A outer s H vs Q E

/-- an exception of the program's own, made with a text -/
def exE (mg : Str → Option Value) (E : XK) : EK := fun c ds H => ds = [] ∧ ∃ C, mg c = some (.ref C) ∧ E (.ref C) none H
abbrev Fn := List D → R (Hd × Env)
/-- O: the parameters whose lists it may change -/
def spD (K : PySem.W.Frag) (mg : Str → Option Value) (np : Nat) (O : List Nat) (g : Fn) : Sp := fun vs H Q E => vs.length = np ∧ ∃ ds P0, Sim K P0 O [] (ds.map some) (vs.map some) H ∧ ds.length = np ∧
  Res (exE mg E) O (vs.map some) H (g ds) fun a => ∀ v H', Keep O (vs.map some) H H' → Sim K P0 O [] a.2 (vs.map some) H' → HdR K P0 O H (vs.map some) H' a.1 v → Q v H'
structure Glo (P : Program) (w : World) (K : PySem.W.Frag) (mg : Str → Option Value) (base : Heap) (name : Str) (k np : Nat) (O : List Nat) (g : Fn) : Prop where
  ex : ∃ f fd ps, mg name = some (.ref f) ∧ PySem.W.keepIn K (.ref f) = true ∧ Binds K fd ps [] ∧ ps.length = np ∧ FnOk P w K mg base (L2N.CX P w) k f fd ps (spD K mg np O g)
/-- exceptions of callees reach what is wanted here -/
structure Out2 (X : Cx) (E : EK) (XE : XK) : Prop where
  pass : Passes (L2N.CX X.prog X.w) X XE
  ex : ∀ c ds H, E c ds H → exE X.mg XE c ds H
theorem Out2.blk {X : Cx} : Out2 X E00 E0 := ⟨passN, fun _ _ _ h => h.elim⟩
def pureF (g : List D → R Hd) : Fn := fun ds => do
  let h ← g ds
  pure (h, [])
section
variable {K : PySem.W.Frag} {P0 : Pr} {O W : List Nat} {ρ : Env} {σ : St} {H H' : Hp}
theorem FA_nil {τ : St} (b : Addr) : FA P0 [] τ b ↔ P0 b := ⟨fun z => z.elim id (fun ⟨_, h, _⟩ => (nomatch h)), .inl⟩
theorem Keep.nil {τ : St} (k : Keep [] τ H H') : Same H H' := fun b o e => k.keep b o e fun ⟨_, h, _⟩ => nomatch h
/-- the callee's state where no parameter is its own -/
theorem sim_args {ds : List D} {vs : List V} (hm : ∀ b, P0 b → isMut (H b)) (r : Reps K H ds P0 vs) : Sim K P0 [] [] (ds.map some) (vs.map some) H where
  sub := fun _ h => nomatch h
  len := by rw [List.length_map, List.length_map, r.length]; exact Nat.le_refl _
  dom := fun b z => hm b ((FA_nil b).mp z)
  val := fun i d e _ => by
    rw [List.getElem?_map] at e
    cases q : ds[i]? with
    | none => rw [q] at e; cases e
    | some d' =>
      rw [q] at e; cases e
      obtain ⟨v, e1, r1⟩ := r.get q
      exact ⟨v, by rw [List.getElem?_map, e1]; rfl, r1.less hm fun b z => (FA_nil b).mp z⟩
  own := fun i d e h => nomatch h
  sep := fun _ _ _ h => nomatch h
  sep0 := fun a ⟨_, h, _⟩ => nomatch h
end
section
variable {X : Cx} {P0 : Pr} {O W U : List Nat} {E : EK} {XE : XK} {a b c e : Expr} {es : List Expr} {ma mb mc : EM} {ms : AM} {pos : Pos} {k np : Nat} {name : Str}
/-- f(..), no argument's list is changed -/
def cCallF (g : List D → R Hd) (m : AM) : EM := fun ρ => do
  let (hs, ρ1) ← m ρ
  let ds ← (vsOf hs).nox
  let h ← g ds
  match h with
  | .ow _ => .stk
  | h => pure (h, ρ1)
theorem tM_callF {g : List D → R Hd} (hE : ∀ c ds H, E c ds H → exE X.mg XE c ds H) (σ : St) (H : Hp) (Q : VK) (len : ∀ σ H Q, tMs X.K P0 O W E ms σ H Q → True) (h : tM X.K P0 O W E (cCallF g ms) σ H Q) (hl : ∀ ρ hs ρ1, ms ρ = .ok (hs, ρ1) → hs.length = np) :
    tCall (spD X.K X.mg np [] (pureF g)) [] XE (tMs X.K P0 O W E ms) σ H Q := by
  obtain ⟨ρ, S, h⟩ := h
  refine ⟨ρ, S, ?_⟩
  cases em : ms ρ with
  | stk => unfold cCallF at h; rw [em] at h; exact h.elim
  | er c ds => unfold cCallF at h; rw [em] at h; exact h
  | ok p =>
    obtain ⟨hs, ρ1⟩ := p
    unfold cCallF at h
    rw [em] at h
    intro vs H1 S1 k1 r1
    obtain ⟨ds, e1, q⟩ := Res.of_nox (show Res E W σ H ((vsOf hs).nox >>= _) _ from h)
    have rr := HdRs.vs r1 e1
    have lv : vs.length = np := by
      have : ∀ {hs : List Hd} {vs : List V}, HdRs X.K P0 O H σ H1 hs vs → vs.length = hs.length := fun {hs} => by
        induction hs with
        | nil => intro vs r; have r : vs = [] := r; rw [r]; rfl
        | cons h hs ih => intro vs ⟨v, ws, e, _, r2⟩; rw [e, List.length_cons, List.length_cons, ih r2]
      rw [this r1]
      exact hl ρ hs ρ1 em
    rw [List.append_nil]
    refine ⟨lv, ds, FA P0 O σ, sim_args S1.dom rr, by rw [← rr.length]; exact lv, ?_⟩
    have q := q.keep k1
    unfold pureF
    cases eg : g ds with
    | stk => rw [eg] at q; exact q.elim
    | er c xs =>
      rw [eg] at q
      exact fun H' kp => hE c xs H' (q H' (Keep.same kp.nil))
    | ok hd =>
      rw [eg] at q
      intro v H2 k2 _ r2
      have sm := Keep.nil k2
      cases hd with
      | ow j => exact q.elim
      | fr d => exact q v H2 (S1.same sm) (k1.trans (Keep.same sm)) ⟨r2.1.less (fun b z => (S1.same sm).dom b ((FA_nil b).mp z)) fun b z => .inl z, fun m a e => Classical.byContradiction fun z => k1.some a z (r2.2 m a e)⟩
      | vl d => exact q v H2 (S1.same sm) (k1.trans (Keep.same sm)) (Rep.less (fun b z => (S1.same sm).dom b ((FA_nil b).mp z)) r2 fun b z => .inl z)
/-- the number of arguments -/
def ALen (m : AM) (n : Nat) : Prop := ∀ ρ hs ρ1, m ρ = .ok (hs, ρ1) → hs.length = n
theorem alen_nil : ALen cNil 0 := fun ρ hs ρ1 h => by cases h; rfl
theorem alen_cons {n : Nat} (h : ALen ms n) : ALen (cCons ma ms) (n + 1) := fun ρ hs ρ1 e => by
  obtain ⟨⟨h1, ρa⟩, e1, e⟩ := R.ok_of e
  obtain ⟨⟨h2, ρb⟩, e2, e⟩ := R.ok_of e
  cases e
  rw [List.length_cons, h _ _ _ e2]
theorem ce_call {g : List D → R Hd} {p : Pos} (G : Glo X.prog X.w X.K X.mg X.base name k np [] (pureF g)) (o : Out2 X E XE) (hr : Room k X.A) (ha : CA X P0 O W E (e :: es) ms) (hl : ALen ms np) (hg : Gl X name := by rfl) (hdb : (name == ("__debug__" : Str)) = false := by decide)
    (he : starEach (e :: es) X.env = (false, eval e X.env) :: starEach es X.env := by rfl) (hpl : (backTo pos (starEach es X.env)).any (·.1) = false := by rfl) : CEx X P0 O W E (.Call (.Name name p) (e :: es) [] pos) (cCallF g ms) := by
  obtain ⟨f, fd, ps, hm, hk, hb, _, F⟩ := G.ex
  exact PE.imp (pe_call F hr hg hm hk hb .nil o.pass ha hdb he hpl) fun σ H Q h => tM_callF o.ex σ H Q (fun _ _ _ _ => trivial) h hl
end
end Y

set_option Elab.async false
set_option linter.all false
set_option maxRecDepth 100000
namespace Y
open PySem PySem.Spec PyProof.Rows L2

def retH (np : Nat) : Fl → Env → R Hd
  | .nx, _ => .ok (.fr .non)
  | .rt (.ow i), ρ => if np ≤ i then (do
      let d ← (look i ρ).nox
      pure (.fr d)) else .stk
  | .rt h, _ => .ok h
  | _, _ => .stk
def outs (O : List Nat) (np : Nat) (ρ : Env) : Env := (List.range np).map fun i => if O.contains i = true then ρ.getD i none else none
def fnD (np n : Nat) (O : List Nat) (m : SM) : Fn := fun ds => do
  let (f, ρ) ← m (ds.map some ++ List.replicate (n - np) none)
  let h ← (retH np f ρ).nox
  pure (h, outs O np ρ)
section
variable {K : PySem.W.Frag} {mg : Str → Option Value} {P0 : Pr} {O Oc W U : List Nat} {ρ : Env} {σ : St} {H H' : Hp} {d : D} {v : V} {np n : Nat}
theorem RepO.less {P P' : Pr} (hm : ∀ b, P b → isMut (H b)) (h : RepO K H d P v) (hp : ∀ b, P' b → P b) : RepO K H d P' v := h.mono hm (fun _ _ e _ => e) (fun b z => .inl (hp b z)) fun _ _ _ e => e
/-- an own slot's object, told on -/
theorem RepO.rep {P P' : Pr} (hm : ∀ b, P b → isMut (H b)) (h : RepO K H d P v) (hp : ∀ b, P' b → P b) (ha : ∀ a, v = .ref a → ¬ P' a ∧ P a) : Rep K H d P' v := by
  cases d with
  | lst ds =>
    obtain ⟨a, vs, rfl, h1, h2⟩ := h
    unfold Rep
    exact ⟨a, vs, rfl, (ha a rfl).1, h1, h2.less hm fun b z => z.elim (hp b) fun z => by rw [z]; exact (ha a rfl).2⟩
  | dik ks ds =>
    obtain ⟨a, vs, rfl, hl, h1, h2⟩ := h
    unfold Rep
    exact ⟨a, vs, rfl, (ha a rfl).1, hl, .inl h1, h2.less hm fun b z => z.elim (hp b) fun z => by rw [z]; exact (ha a rfl).2⟩
  | dit ks ds =>
    obtain ⟨a, vs, rfl, hl, h1, h2⟩ := h
    unfold Rep
    exact ⟨a, vs, rfl, (ha a rfl).1, hl, .inl h1, h2.less hm fun b z => z.elim (hp b) fun z => by rw [z]; exact (ha a rfl).2⟩
  | non => unfold Rep; exact h
  | bl _ => unfold Rep; exact h
  | int _ => unfold Rep; exact h
  | str _ => unfold Rep; exact h
  | tup _ => exact False.elim h
  | arg _ => exact False.elim h
  | ftu _ => exact False.elim h
  | tab p q =>
    obtain ⟨a, rfl, ht⟩ := h
    unfold Rep
    exact ⟨a, rfl, (ha a rfl).1, ht⟩
theorem start_get {N : List Str} {vs : List V} {i : Nat} {v : V} (h : (L2.start N vs)[i]? = some (some v)) : vs[i]? = some v := by
  unfold L2.start at h
  by_cases hi : i < vs.length
  · rw [List.getElem?_append_left (by simpa using hi), List.getElem?_map] at h
    cases e : vs[i]? with
    | none => rw [e] at h; cases h
    | some a => rw [e] at h; cases h; rfl
  · rw [List.getElem?_append_right (by simpa using hi), List.getElem?_replicate] at h
    split at h <;> cases h
theorem start_of {N : List Str} {vs : List V} {i : Nat} {v : V} (h : vs[i]? = some v) : (L2.start N vs)[i]? = some (some v) := by
  unfold L2.start
  have hi : i < vs.length := (List.getElem?_eq_some_iff.mp h).1
  rw [List.getElem?_append_left (by simpa using hi), List.getElem?_map, h]
  rfl
theorem env_get {ds : List D} {k i : Nat} {d : D} (h : (ds.map some ++ List.replicate k none)[i]? = some (some d)) : ds[i]? = some d := by
  by_cases hi : i < ds.length
  · rw [List.getElem?_append_left (by simpa using hi), List.getElem?_map] at h
    cases e : ds[i]? with
    | none => rw [e] at h; cases h
    | some a => rw [e] at h; cases h; rfl
  · rw [List.getElem?_append_right (by simpa using hi), List.getElem?_replicate] at h
    split at h <;> cases h
theorem map_get {α : Type} {ds : List α} {i : Nat} {d : α} : (ds.map some)[i]? = some (some d) ↔ ds[i]? = some d := by
  rw [List.getElem?_map]
  cases ds[i]? <;> simp
theorem OA_start {N : List Str} {vs : List V} (hO : ∀ i, i ∈ O ↔ i ∈ Oc ∧ i < np) (hl : vs.length = np) (b : Addr) : OA Oc (L2.start N vs) b ↔ OA O (vs.map some) b := by
  constructor
  · rintro ⟨i, hi, e⟩
    have e := start_get e
    exact ⟨i, (hO i).mpr ⟨hi, by rw [← hl]; exact (List.getElem?_eq_some_iff.mp e).1⟩, map_get.mpr e⟩
  · rintro ⟨i, hi, e⟩
    exact ⟨i, ((hO i).mp hi).1, start_of (map_get.mp e)⟩
theorem sim_start {N : List Str} {ds : List D} {vs : List V} (S : Sim K P0 O [] (ds.map some) (vs.map some) H) (hO : ∀ i, i ∈ O ↔ i ∈ Oc ∧ i < np) (hW : ∀ i ∈ W, i ∈ Oc) (hl : vs.length = np) (hd : ds.length = np) (hn : N.length = n) : Sim K P0 Oc W (ds.map some ++ List.replicate (n - np) none) (L2.start N vs) H := by
  have fa : ∀ b, FA P0 Oc (L2.start N vs) b → FA P0 O (vs.map some) b := fun b z => z.imp id (OA_start hO hl b).mp
  refine ⟨hW, by unfold L2.start; simp; omega, fun b z => S.dom b (fa b z), fun i d e n => ?_, fun i d e n => ?_, fun i j a hi hj e1 e2 => ?_, fun a z => S.sep0 a ((OA_start hO hl a).mp z)⟩
  · obtain ⟨v, h1, h2⟩ := S.val i d (map_get.mpr (env_get e)) fun z => n ((hO i).mp z).1
    exact ⟨v, start_of (map_get.mp h1), h2.less S.dom fa⟩
  · have e := env_get e
    have hi : i < np := by rw [← hd]; exact (List.getElem?_eq_some_iff.mp e).1
    obtain ⟨v, h1, h2⟩ := S.own i d (map_get.mpr e) ((hO i).mpr ⟨n, hi⟩)
    exact ⟨v, start_of (map_get.mp h1), h2.less S.dom fa⟩
  · have e1 := start_get e1
    have e2 := start_get e2
    have l1 : i < np := by rw [← hl]; exact (List.getElem?_eq_some_iff.mp e1).1
    have l2 : j < np := by rw [← hl]; exact (List.getElem?_eq_some_iff.mp e2).1
    exact S.sep i j a ((hO i).mpr ⟨hi, l1⟩) ((hO j).mpr ⟨hj, l2⟩) (map_get.mpr e1) (map_get.mpr e2)
theorem outs_get {i : Nat} (h : (outs O np ρ)[i]? = some (some d)) : i ∈ O ∧ i < np ∧ ρ[i]? = some (some d) := by
  unfold outs at h
  rw [List.getElem?_map] at h
  cases e : (List.range np)[i]? with
  | none => rw [e] at h; cases h
  | some j =>
    rw [e] at h
    have hi := (List.getElem?_eq_some_iff.mp e).1
    have hj : j = i := by
      obtain ⟨h1, h2⟩ := List.getElem?_eq_some_iff.mp e
      simpa using h2.symm
    subst hj
    simp only [Option.map_some, Option.some.injEq] at h
    split at h
    · rename_i c
      refine ⟨by simpa using c, by simpa using hi, ?_⟩
      rw [List.getD_eq_getElem?_getD] at h
      cases q : ρ[j]? with
      | none => rw [q] at h; cases h
      | some o => rw [q] at h; simp at h; rw [h]
    · cases h
/-- THE RULE for a def -/
theorem fnD_ok {P : Program} {w : World} {base : Heap} {x qual : Str} {st : Stmt} {f : Addr} {fd : FuncData} {N ps : List Str} {k : Nat} {m : SM} (F : Fun K x qual st f fd) (S : FnScope N ps (defScope st)) (hp : ps.length = np) (hn : N.length = n) (hO : ∀ i, i ∈ O ↔ i ∈ Oc ∧ i < np) (hW : ∀ i ∈ W, i ∈ Oc) (hU : ∀ i ∈ O, i ∈ U)
    (hb : ∀ (cdv : Value) (A : Around) (outer : List PySem.Env) (s : Shared) (H : Hp) (E : XK) (P0 : Pr), Room k (A.deeper (envOfC qual (defScope st) s.heap.objs.size f cdv)) → CSs (cxOf (L2N.CX P w) P w K mg base N qual (defScope st) f cdv A outer s H E) P0 Oc W U (exE mg E) (defBody st) m) :
    FnOk P w K mg base (L2N.CX P w) (k + 1) f fd ps (spD K mg np O (fnD np n O m)) := by
  refine okN F S (fun vs H Q E h => by rw [h.1, hp]) fun cdv A outer s H vs Q E hr h => ?_
  obtain ⟨hl, ds, P0, S0, hd, h⟩ := h
  refine ⟨_, hb cdv A outer s H E P0 hr, _, sim_start S0 hO hW hl hd hn, ?_⟩
  have oa := fun b => OA_start (N := N) hO hl b
  have kO : ∀ {H'}, Keep Oc (L2.start N vs) H H' → Keep O (vs.map some) H H' := fun {H'} k => ⟨fun b o e nn => k.keep b o e fun z => nn ((oa b).mp z), k.some⟩
  unfold fnD at h
  cases em : m (ds.map some ++ List.replicate (n - np) none) with
  | stk => rw [em] at h; exact h.elim
  | er c xs => rw [em] at h; exact fun H' kp => h H' (kO kp)
  | ok p =>
    obtain ⟨fl, ρ1⟩ := p
    rw [em] at h
    obtain ⟨hh, e1, h⟩ := Res.of_nox (show Res (exE mg E) O (vs.map some) H ((retH np fl ρ1).nox >>= _) _ from h)
    intro σ' H' S' t' l'
    have h : ∀ v H', Keep O (vs.map some) H H' → Sim K P0 O [] (outs O np ρ1) (vs.map some) H' → HdR K P0 O H (vs.map some) H' hh v → Q v H' := h
    have un : ∀ i ∈ O, σ'[i]? = (L2.start N vs)[i]? := fun i hi => t'.unch i (hU i hi)
    have pre : ∀ {i : Nat} {v : V}, i ∈ O → (σ'[i]? = some (some v) ↔ (vs.map some)[i]? = some (some v)) := fun {i v} hi => by
      rw [un i hi]
      exact ⟨fun e => map_get.mpr (start_get e), fun e => start_of (map_get.mp e)⟩
    have oO : ∀ b, OA O (vs.map some) b → OA Oc σ' b := fun b ⟨i, hi, e⟩ => ⟨i, ((hO i).mp hi).1, (pre hi).mpr e⟩
    have fa : ∀ b, FA P0 O (vs.map some) b → FA P0 Oc σ' b := fun b z => z.imp id (oO b)
    have kk : Keep O (vs.map some) H H' := ⟨fun b o e nn => t'.keep b o e fun z => nn ((oa b).mp z), t'.some⟩
    have so : Sim K P0 O [] (outs O np ρ1) (vs.map some) H' := by
      refine ⟨fun _ z => (nomatch z), by unfold outs; simp [hl], fun b z => S'.dom b (fa b z), fun i d e nn => absurd (outs_get e).1 nn, fun i d e hi => ?_, S0.sep, S0.sep0⟩
      obtain ⟨_, _, e2⟩ := outs_get e
      obtain ⟨v, h1, h2⟩ := S'.own i d e2 ((hO i).mp hi).1
      exact ⟨v, (pre hi).mp h1, h2.less S'.dom fa⟩
    cases fl with
    | bk => cases e1
    | ct => cases e1
    | nx => cases e1; exact h .non H' kk so ⟨by unfold Rep; rfl, fun z => by cases z⟩
    | rt hd' =>
      intro v r
      cases hd' with
      | fr d => cases e1; exact h v H' kk so ⟨r.1.less S'.dom fa, r.2⟩
      | vl d => cases e1; exact h v H' kk so (Rep.less S'.dom r fa)
      | ow i =>
        have e1 : (if np ≤ i then (do
          let d ← (look i ρ1).nox
          pure (Hd.fr d)) else .stk) = R.ok hh := e1
        by_cases hi : np ≤ i
        · rw [if_pos hi] at e1
          obtain ⟨d, e2, e1⟩ := R.ok_of e1
          cases e1
          have e2 := look_some (R.nox_of e2)
          obtain ⟨v', h1, h2⟩ := S'.own i d e2 r.1
          have q : σ'[i]? = some (some v) := r.2
          rw [q] at h1
          cases h1
          have no : ∀ a, v = .ref a → ¬ OA O (vs.map some) a := fun a e z => by
            obtain ⟨j, hj, ej⟩ := z
            have := S'.sep i j a r.1 ((hO j).mp hj).1 (by rw [q, e]) ((pre hj).mpr ej)
            have := ((hO j).mp hj).2
            omega
          refine h v H' kk so ⟨h2.rep S'.dom fa fun a e => ⟨fun z => ?_, .inr ⟨i, r.1, by rw [q, e]⟩⟩, fun _ a e => ?_⟩
          · rcases z with z | z
            · exact S'.sep0 a ⟨i, r.1, by rw [q, e]⟩ z
            · exact no a e z
          · rcases t'.own a ⟨i, r.1, by rw [q, e]⟩ with z | z
            · exact absurd ((oa a).mp z) (no a e)
            · exact z
        · rw [if_neg hi] at e1
          cases e1
end
end Y

set_option Elab.async false
set_option linter.all false
set_option maxRecDepth 100000
namespace Y
open PySem PySem.Spec PyProof.Rows L2

def placed (pr : List (Nat × Nat)) : Nat → List Hd → Bool
  | _, [] => true
  | j, .ow i :: hs => pr.contains (j, i) && placed pr (j + 1) hs
  | j, _ :: hs => (!pr.any fun p => p.1 == j) && placed pr (j + 1) hs
def putOuts (os : Env) : List (Nat × Nat) → Env → Env
  | [], ρ => ρ
  | (j, i) :: pr, ρ => (putOuts os pr ρ).set i (os.getD j none)
def cCallIO (pr : List (Nat × Nat)) (g : Fn) (m : AM) : EM := fun ρ => do
  let (hs, ρ1) ← m ρ
  if placed pr 0 hs = true then do
    let ds ← (dsOf hs ρ1).nox
    let (h, os) ← g ds
    match h with
    | .ow _ => .stk
    | h => pure (h, putOuts os pr ρ1)
  else .stk
section
variable {K : PySem.W.Frag} {P0 : Pr} {O Oc W : List Nat} {ρ : Env} {σ : St} {Hs H H' : Hp} {pr : List (Nat × Nat)} {os : Env}
theorem putOuts_len : ∀ pr : List (Nat × Nat), (putOuts os pr ρ).length = ρ.length
  | [] => rfl
  | (j, i) :: pr => by unfold putOuts; rw [List.length_set, putOuts_len pr]
theorem putOuts_ne {x : Nat} : ∀ {pr : List (Nat × Nat)}, x ∉ pr.map (·.2) → (putOuts os pr ρ)[x]? = ρ[x]?
  | [], _ => rfl
  | (j, i) :: pr, h => by
    simp only [List.map_cons, List.mem_cons, not_or] at h
    unfold putOuts
    rw [List.getElem?_set_ne fun z => h.1 z.symm, putOuts_ne h.2]
theorem putOuts_at {j i : Nat} {d : D} : ∀ {pr : List (Nat × Nat)}, (pr.map (·.2)).Nodup → (j, i) ∈ pr → (putOuts os pr ρ)[i]? = some (some d) → os[j]? = some (some d)
  | [], _, h, _ => nomatch h
  | (j', i') :: pr, nd, h, e => by
    simp only [List.map_cons, List.nodup_cons] at nd
    unfold putOuts at e
    rcases List.mem_cons.mp h with z | z
    · cases z
      have hl : i < (putOuts os pr ρ).length := by
        have := (List.getElem?_eq_some_iff.mp e).1
        simpa using this
      rw [List.getElem?_set_self hl, List.getD_eq_getElem?_getD] at e
      cases q : os[j]? with
      | none => rw [q] at e; cases e
      | some o => rw [q] at e; simp at e; rw [e]
    · have hi : i' ≠ i := fun y => nd.1 (by rw [y]; exact List.mem_map.mpr ⟨_, z, rfl⟩)
      rw [List.getElem?_set_ne hi] at e
      exact putOuts_at nd.2 z e
theorem HdRs.at : ∀ {hs : List Hd} {vs : List V} {j : Nat} {v : V}, HdRs K P0 O Hs σ H hs vs → vs[j]? = some v → ∃ h, hs[j]? = some h ∧ HdR K P0 O Hs σ H h v
  | [], _, _, _, r, e => by have r : _ = [] := r; rw [r] at e; simp at e
  | h :: hs, _, 0, v, ⟨w, ws, e0, r1, _⟩, e => by subst e0; simp at e; subst e; exact ⟨h, rfl, r1⟩
  | h :: hs, _, j + 1, v, ⟨w, ws, e0, _, r2⟩, e => by subst e0; simpa using HdRs.at r2 (by simpa using e)
theorem HdRs.len : ∀ {hs : List Hd} {vs : List V}, HdRs K P0 O Hs σ H hs vs → vs.length = hs.length
  | [], _, r => by have r : _ = [] := r; rw [r]; rfl
  | h :: hs, _, ⟨w, ws, e0, _, r2⟩ => by subst e0; rw [List.length_cons, List.length_cons, HdRs.len r2]
theorem dsOf_at : ∀ {hs : List Hd} {ds : List D}, dsOf hs ρ = .ok ds → ds.length = hs.length ∧ ∀ (j : Nat) h d, hs[j]? = some h → ds[j]? = some d → h.d ρ = .ok d
  | [], _, e => by cases e; exact ⟨rfl, fun j h d e => by simp at e⟩
  | h :: hs, _, e => by
    obtain ⟨d, e1, e⟩ := R.ok_of e
    obtain ⟨ds, e2, e⟩ := R.ok_of e
    cases e
    obtain ⟨l, g⟩ := dsOf_at e2
    refine ⟨by rw [List.length_cons, List.length_cons, l], fun j h' d' a b => ?_⟩
    cases j with
    | zero => simp at a b; subst a b; exact R.nox_of e1
    | succ j => exact g j h' d' (by simpa using a) (by simpa using b)
theorem placed_at : ∀ {hs : List Hd} {k : Nat}, placed pr k hs = true → ∀ (j : Nat) h, hs[j]? = some h → (∃ i, h = .ow i ∧ (k + j, i) ∈ pr) ∨ ((∀ i, h ≠ .ow i) ∧ (k + j) ∉ pr.map (·.1))
  | [], _, _, j, h, e => by simp at e
  | h0 :: hs, k, p, j, h, e => by
    cases j with
    | zero =>
      simp at e; subst e
      cases h0 with
      | ow i =>
        unfold placed at p
        rw [Bool.and_eq_true] at p
        exact .inl ⟨i, rfl, by simpa using p.1⟩
      | fr d =>
        unfold placed at p
        rw [Bool.and_eq_true] at p
        refine .inr ⟨fun i z => (by cases z), fun z => ?_⟩
        obtain ⟨q, hq, e⟩ := List.mem_map.mp z
        have := p.1
        simp only [Bool.not_eq_true', List.any_eq_false] at this
        exact this q hq (by simpa using e)
      | vl d =>
        unfold placed at p
        rw [Bool.and_eq_true] at p
        refine .inr ⟨fun i z => (by cases z), fun z => ?_⟩
        obtain ⟨q, hq, e⟩ := List.mem_map.mp z
        have := p.1
        simp only [Bool.not_eq_true', List.any_eq_false] at this
        exact this q hq (by simpa using e)
    | succ j =>
      have p2 : placed pr (k + 1) hs = true := by
        cases h0 <;> (unfold placed at p; rw [Bool.and_eq_true] at p; exact p.2)
      have := placed_at p2 j h (by simpa using e)
      rwa [show k + 1 + j = k + (j + 1) by omega] at this
end
theorem nodup_inj {pr : List (Nat × Nat)} (hn : (pr.map (·.2)).Nodup) {j j' i : Nat} (a : (j, i) ∈ pr) (b : (j', i) ∈ pr) : j = j' := by
  induction pr with
  | nil => cases a
  | cons p pr ih =>
    simp only [List.map_cons, List.nodup_cons] at hn
    rcases List.mem_cons.mp a with a | a <;> rcases List.mem_cons.mp b with b | b
    · rw [← a] at b; cases b; rfl
    · exact absurd (List.mem_map.mpr ⟨_, b, by rw [← a]⟩) hn.1
    · exact absurd (List.mem_map.mpr ⟨_, a, by rw [← b]⟩) hn.1
    · exact ih hn.2 a b
theorem nodup_inj1 {pr : List (Nat × Nat)} (hn : (pr.map (·.1)).Nodup) {j i i' : Nat} (a : (j, i) ∈ pr) (b : (j, i') ∈ pr) : i = i' := by
  induction pr with
  | nil => cases a
  | cons p pr ih =>
    simp only [List.map_cons, List.nodup_cons] at hn
    rcases List.mem_cons.mp a with a | a <;> rcases List.mem_cons.mp b with b | b
    · rw [← a] at b; cases b; rfl
    · exact absurd (List.mem_map.mpr ⟨_, b, by rw [← a]⟩) hn.1
    · exact absurd (List.mem_map.mpr ⟨_, a, by rw [← b]⟩) hn.1
    · exact ih hn.2 a b
section
variable {X : Cx} {P0 : Pr} {O Oc W U : List Nat} {E : EK} {XE : XK} {a b c e : Expr} {es : List Expr} {ma mb mc : EM} {ms : AM} {pos : Pos} {k np : Nat} {name : Str} {pr : List (Nat × Nat)}
theorem tM_callIO {g : Fn} (hE : ∀ c ds H, E c ds H → exE X.mg XE c ds H) (hO : O = pr.map (·.1)) (hn : (pr.map (·.2)).Nodup) (hn1 : (pr.map (·.1)).Nodup) (hw : ∀ p ∈ pr, p.2 ∈ W) (hl : ALen ms np) (σ : St) (H : Hp) (Q : VK) (h : tM X.K P0 Oc W E (cCallIO pr g ms) σ H Q) :
    tCall (spD X.K X.mg np O g) [] XE (tMs X.K P0 Oc W E ms) σ H Q := by
  obtain ⟨ρ, S, h⟩ := h
  refine ⟨ρ, S, ?_⟩
  cases em : ms ρ with
  | stk => unfold cCallIO at h; rw [em] at h; exact h.elim
  | er c ds => unfold cCallIO at h; rw [em] at h; exact h
  | ok p =>
    obtain ⟨hs, ρ1⟩ := p
    unfold cCallIO at h
    rw [em] at h
    intro vs H1 S1 k1 r1
    have q : Res E W σ H (if placed pr 0 hs = true then (do
      let ds ← (dsOf hs ρ1).nox
      let (h, os) ← g ds
      match h with
      | .ow _ => .stk
      | h => pure (h, putOuts os pr ρ1)) else .stk) _ := h
    have hp : placed pr 0 hs = true := by
      cases hp : placed pr 0 hs with
      | true => rfl
      | false => rw [hp] at q; exact q.elim
    rw [if_pos hp] at q
    obtain ⟨ds, e1, q⟩ := q.of_nox
    have pl := placed_at hp
    simp only [Nat.zero_add] at pl
    obtain ⟨dl, dg⟩ := dsOf_at e1
    have lv : vs.length = np := by rw [HdRs.len r1]; exact hl ρ hs ρ1 em
    have ld : ds.length = np := by rw [dl]; exact hl ρ hs ρ1 em
    rw [List.append_nil]
    -- the callee's own objects are own here
    have own : ∀ {j : Nat} {v : V}, j ∈ O → (vs.map some)[j]? = some (some v) → ∃ i, (j, i) ∈ pr ∧ i ∈ Oc ∧ i ∈ W ∧ σ[i]? = some (some v) ∧ hs[j]? = some (.ow i) := fun {j v} hj e => by
      obtain ⟨h, e2, r⟩ := HdRs.at r1 (map_get.mp e)
      rcases pl j h e2 with ⟨i, rfl, hi⟩ | ⟨_, hn'⟩
      · exact ⟨i, hi, r.1, hw _ hi, r.2, e2⟩
      · rw [hO] at hj; exact absurd hj hn'
    have oa : ∀ b, OA O (vs.map some) b → OA W σ b := fun b ⟨j, hj, e⟩ => let ⟨i, _, _, h2, h3, _⟩ := own hj e; ⟨i, h2, h3⟩
    have oaO : ∀ b, OA O (vs.map some) b → OA Oc σ b := fun b z => S1.oaw (oa b z)
    generalize hP1 : (fun b => FA P0 Oc σ b ∧ ¬ OA O (vs.map some) b : Pr) = P1
    have fa1 : ∀ b, FA P1 O (vs.map some) b → FA P0 Oc σ b := fun b z => by
      subst hP1
      rcases z with z | z
      · exact z.1
      · exact .inr (oaO b z)
    have fa2 : ∀ b, FA P0 Oc σ b → FA P1 O (vs.map some) b := fun b z => by
      subst hP1
      by_cases y : OA O (vs.map some) b
      · exact .inr y
      · exact .inl ⟨z, y⟩
    have S2 : Sim X.K P1 O [] (ds.map some) (vs.map some) H1 := by
      refine ⟨fun _ z => (nomatch z), by simp [lv, ld], fun b z => S1.dom b (fa1 b z), fun j d e nj => ?_, fun j d e hj => ?_, fun x y a hx hy e1 e2 => ?_, fun a z y => by subst hP1; exact y.2 z⟩
      · have e := map_get.mp e
        have hj : j < vs.length := by rw [lv, ← ld]; exact (List.getElem?_eq_some_iff.mp e).1
        have ev : vs[j]? = some vs[j] := List.getElem?_eq_getElem hj
        obtain ⟨h, e2, r⟩ := HdRs.at r1 ev
        refine ⟨vs[j], map_get.mpr ev, ?_⟩
        have hd := dg j h d e2 e
        rcases pl j h e2 with ⟨i, rfl, hi⟩ | ⟨hne, _⟩
        · exact absurd (by rw [hO]; exact List.mem_map.mpr ⟨_, hi, rfl⟩) nj
        · cases h with
          | fr d' => cases hd; exact r.1.less S1.dom fa1
          | vl d' => cases hd; exact Rep.less S1.dom r fa1
          | ow i => exact absurd rfl (hne i)
      · have e := map_get.mp e
        have hj' : j < vs.length := by rw [lv, ← ld]; exact (List.getElem?_eq_some_iff.mp e).1
        have ev : (vs.map some)[j]? = some (some vs[j]) := map_get.mpr (List.getElem?_eq_getElem hj')
        obtain ⟨i, h1, h2, h3, h4, h5⟩ := own hj ev
        have hd := look_some (dg j _ d h5 e)
        obtain ⟨w, h6, h7⟩ := S1.own i d hd h2
        rw [h4] at h6; cases h6
        exact ⟨_, ev, h7.less S1.dom fa1⟩
      · obtain ⟨i1, a1, b1, c1, d1, f1⟩ := own hx e1
        obtain ⟨i2, a2, b2, c2, d2, f2⟩ := own hy e2
        have ei := S1.sep i1 i2 a b1 b2 d1 d2
        subst ei
        have := nodup_inj hn a1 a2
        exact this
    refine ⟨lv, ds, P1, S2, ld, ?_⟩
    have q := q.keep k1
    cases eg : g ds with
    | stk => rw [eg] at q; exact q.elim
    | er c xs =>
      rw [eg] at q
      exact fun H' kp => hE c xs H' (q H' ⟨fun b o e n => kp.keep b o e fun z => n (oa b z), kp.some⟩)
    | ok p =>
      obtain ⟨hd, os⟩ := p
      rw [eg] at q
      intro v H2 k2 S3 r2
      have S3 : Sim X.K P1 O [] os (vs.map some) H2 := S3
      have k3 : Keep W σ H1 H2 := ⟨fun b o e n => k2.keep b o e fun z => n (oa b z), k2.some⟩
      have slot : ∀ {j i : Nat}, (j, i) ∈ pr → i ∈ Oc := fun {j i} z => S1.sub i (hw _ z)
      have S4 : Sim X.K P0 Oc W (putOuts os pr ρ1) σ H2 := by
        refine ⟨S1.sub, by rw [putOuts_len]; exact S1.len, fun b z => S3.dom b (fa2 b z), fun i d e n => ?_, fun i d e n => ?_, S1.sep, S1.sep0⟩
        · have ni : i ∉ pr.map (·.2) := fun z => by
            obtain ⟨⟨j, i'⟩, hq, z⟩ := List.mem_map.mp z
            cases z
            exact n (slot hq)
          rw [putOuts_ne ni] at e
          obtain ⟨v, h1, h2⟩ := S1.val i d e n
          exact ⟨v, h1, h2.of_same S1.dom fun b o e n => k2.keep b o e fun z => n (.inr (oaO b z))⟩
        · by_cases ni : i ∈ pr.map (·.2)
          · obtain ⟨⟨j, i'⟩, hq, z⟩ := List.mem_map.mp ni
            cases z
            have eo := putOuts_at hn hq e
            have hj : j ∈ O := by rw [hO]; exact List.mem_map.mpr ⟨_, hq, rfl⟩
            obtain ⟨w, h1, h2⟩ := S3.own j d eo hj
            obtain ⟨i2, a2, b2, c2, d2, f2⟩ := own hj h1
            have : i2 = i' := by
              have := nodup_inj1 hn1 a2 hq
              exact this
            subst this
            exact ⟨w, d2, h2.less S3.dom fa2⟩
          · rw [putOuts_ne ni] at e
            obtain ⟨w, h1, h2⟩ := S1.own i d e n
            refine ⟨w, h1, h2.mono S1.dom (fun b o e n => k2.keep b o e fun z => n (.inr (oaO b z))) (fun _ z => .inl z) fun a o e1 e2 => k2.keep a o e2 fun ⟨j, hj, ej⟩ => ?_⟩
            subst e1
            obtain ⟨i2, a2, b2, c2, d2, f2⟩ := own hj ej
            have := S1.sep i i2 a n b2 h1 d2
            subst this
            exact ni (List.mem_map.mpr ⟨_, a2, rfl⟩)
      cases hd with
      | ow j => exact q.elim
      | fr d => exact q v H2 S4 (k1.trans k3) ⟨r2.1.less S3.dom fa2, fun m a e => Classical.byContradiction fun z => k1.some a z (r2.2 m a e)⟩
      | vl d => exact q v H2 S4 (k1.trans k3) (Rep.less S3.dom r2 fa2)
theorem ce_callIO {g : Fn} {p : Pos} (G : Glo X.prog X.w X.K X.mg X.base name k np O g) (pr : List (Nat × Nat)) (o : Out2 X E XE) (hr : Room k X.A) (ha : CA X P0 Oc W E (e :: es) ms) (hl : ALen ms np) (hO : O = pr.map (·.1) := by rfl) (hn : (pr.map (·.2)).Nodup := by decide) (hn1 : (pr.map (·.1)).Nodup := by decide) (hw : ∀ p ∈ pr, p.2 ∈ W := by decide) (hg : Gl X name := by rfl) (hdb : (name == ("__debug__" : Str)) = false := by decide)
    (he : starEach (e :: es) X.env = (false, eval e X.env) :: starEach es X.env := by rfl) (hpl : (backTo pos (starEach es X.env)).any (·.1) = false := by rfl) : CEx X P0 Oc W E (.Call (.Name name p) (e :: es) [] pos) (cCallIO pr g ms) := by
  obtain ⟨f, fd, ps, hm, hk, hb, _, F⟩ := G.ex
  exact PE.imp (pe_call F hr hg hm hk hb .nil o.pass ha hdb he hpl) fun σ H Q h => tM_callIO o.ex hO hn hn1 hw hl σ H Q h
end
end Y

set_option Elab.async false
set_option linter.all false
set_option maxRecDepth 100000
namespace Y
open PySem PySem.Spec PyProof.Rows L2

def fnP (np n : Nat) (m : SM) : List D → R Hd := fun ds => do
  let (f, ρ) ← m (ds.map some ++ List.replicate (n - np) none)
  (retH np f ρ).nox
section
variable {P : Program} {w : World} {K : PySem.W.Frag} {mg : Str → Option Value} {base : Heap} {name : Str} {k np n : Nat} {O : List Nat}
theorem Glo.imp {g g' : Fn} (G : Glo P w K mg base name k np O g) (h : ∀ vs H Q E, spD K mg np O g' vs H Q E → spD K mg np O g vs H Q E) : Glo P w K mg base name k np O g' :=
  let ⟨f, fd, ps, h1, h2, h3, h4, F⟩ := G.ex
  ⟨f, fd, ps, h1, h2, h3, h4, F.imp h⟩
theorem Glo.mono {g : Fn} {k' : Nat} (G : Glo P w K mg base name k np O g) (h : k ≤ k' := by decide) : Glo P w K mg base name k' np O g :=
  let ⟨f, fd, ps, h1, h2, h3, h4, F⟩ := G.ex
  ⟨f, fd, ps, h1, h2, h3, h4, F.mono h⟩
theorem spD_pure {m : SM} {vs : List V} {H : Hp} {Q : VK} {E : XK} : spD K mg np [] (pureF (fnP np n m)) vs H Q E → spD K mg np [] (fnD np n [] m) vs H Q E := fun ⟨hl, ds, P0, S, hd, h⟩ => ⟨hl, ds, P0, S, hd, by
  unfold pureF fnP at h
  unfold fnD
  cases em : m (ds.map some ++ List.replicate (n - np) none) with
  | stk => rw [em] at h; exact h
  | er c xs => rw [em] at h; exact h
  | ok p =>
    obtain ⟨fl, ρ⟩ := p
    rw [em] at h
    cases er : (retH np fl ρ).nox with
    | stk => exact (show Res (exE mg E) [] (vs.map some) H ((retH np fl ρ).nox >>= fun h => Y.R.ok (h, outs [] np ρ)) _ by
        rw [er]
        have h : Res (exE mg E) [] (vs.map some) H ((retH np fl ρ).nox >>= fun h => Y.R.ok (h, [])) _ := h
        rw [er] at h
        exact h)
    | er c xs => cases e2 : retH np fl ρ <;> rw [e2] at er <;> cases er
    | ok hd' =>
      refine (show Res (exE mg E) [] (vs.map some) H ((retH np fl ρ).nox >>= fun h => Y.R.ok (h, outs [] np ρ)) _ from ?_)
      have h : Res (exE mg E) [] (vs.map some) H ((retH np fl ρ).nox >>= fun h => Y.R.ok (h, [])) _ := h
      rw [er] at h ⊢
      exact fun v H' kp S' r => h v H' kp (S'.move (Nat.zero_le _) (fun _ _ => rfl) (fun _ z => nomatch z) fun i d e => by simp at e) r⟩
theorem Glo.pure {m : SM} (G : Glo P w K mg base name k np [] (fnD np n [] m)) : Glo P w K mg base name k np [] (pureF (fnP np n m)) := G.imp fun vs H Q E h => spD_pure h
/-- a def of the text -/
structure Def (K : PySem.W.Frag) (mg : Str → Option Value) (x : Str) (st : Stmt) : Prop where
  ex : ∃ f fd, mg x = some (.ref f) ∧ Fun K x x st f fd
theorem glo_mk {x : Str} {st : Stmt} {N ps : List Str} {Oc W U : List Nat} {m : SM} (F : Def K mg x st) (S : FnScope N ps (defScope st))
    (hb : ∀ (f : Addr) (cdv : Value) (A : Around) (outer : List PySem.Env) (s : Shared) (H : Hp) (E : XK) (P0 : Pr), Room k (A.deeper (envOfC x (defScope st) s.heap.objs.size f cdv)) → CSs (cxOf (L2N.CX P w) P w K mg base N x (defScope st) f cdv A outer s H E) P0 Oc W U (exE mg E) (defBody st) m)
    (bi : ∀ (kV doc pm : Value) (an : Option Addr) (cdv ct : Value) (us : List Value), us.length = ps.length → bindArgs (PySem.W.fnOf x x (defArgs st) (defBody st) (defScope st) .none kV doc pm an cdv ct) ⟨us, []⟩ = Pure.pure (ps.zip us))
    (hp : ps.length = np := by rfl) (hn : N.length = n := by rfl) (hO : O = Oc.filter (fun i => decide (i < np)) := by rfl) (hW : ∀ i ∈ W, i ∈ Oc := by decide) (hU : ∀ i ∈ O, i ∈ U := by decide) : Glo P w K mg base x (k + 1) np O (fnD np n O m) := by
  obtain ⟨f, fd, hm, F⟩ := F.ex
  exact ⟨f, fd, ps, hm, F.kp, F.binds bi, hp, fnD_ok F S hp hn (fun i => by rw [hO, List.mem_filter, decide_eq_true_eq]) hW hU fun cdv A outer s H E P0 hr => hb f cdv A outer s H E P0 hr⟩
theorem out2_body {N : List Str} {x : Str} {sc : Scope} {f : Addr} {cdv : Value} {A : Around} {outer : List PySem.Env} {s : Shared} {H : Hp} {E : XK} : Out2 (cxOf (L2N.CX P w) P w K mg base N x sc f cdv A outer s H E) (exE mg E) E :=
  ⟨L2N.passes_call (L2N.takes_of rfl rfl rfl rfl) (fun _ _ _ _ h => h), fun c ds H h => h⟩
theorem cx_none {H : Hp} {s : Shared} {e : Value} {s' : Shared} (h : L2N.CX P w [] H s (fun _ _ _ => False) e s') : False := by
  obtain ⟨_, _, _, _, _, _, _, _, _, _, _, _, z⟩ := h
  exact z.elim
end
end Y

set_option Elab.async false
set_option linter.all false
set_option maxRecDepth 100000
namespace Y
open PySem PySem.Spec PyProof.Rows L2
def tyN : D → String
  | .non => "NoneType" | .bl _ => "bool" | .int _ => "int" | .str _ => "str" | .tup _ => "tuple" | .lst _ => "list" | .arg _ => "list" | .dik _ _ => "dict" | .dit _ _ => "dict" | .ftu _ => "tuple" | .tab _ _ => "NoneType"
def isInt : D → Bool
  | .int _ => true | .bl _ => true | _ => false
def isBl : D → Bool
  | .bl _ => true | _ => false
def isTup : D → Bool
  | .tup _ => true | .ftu _ => true | _ => false
abbrev IsK (T : String) (f : D → Bool) : Prop := ∀ d, kitB (tyN d) T = some (f d)
theorem isk_int : IsK "int" isInt := fun d => by cases d <;> simp only [tyN, isInt] <;> decide +kernel
theorem isk_bool : IsK "bool" isBl := fun d => by cases d <;> simp only [tyN, isBl] <;> decide +kernel
theorem isk_tuple : IsK "tuple" isTup := fun d => by cases d <;> simp only [tyN, isTup] <;> decide +kernel
def noDit : D → Bool
  | .dit _ _ => false | .ftu _ => false | .tab _ _ => false | _ => true
def isFt : D → Bool
  | .ftu _ => true | _ => false
theorem tyX_of {K : PySem.W.Frag} {H : Hp} {P : Pr} {d : D} {v : V} (hd : (noDit d || isFt d) = true) (h : RepW K H d P v) : TyX K H v (.type (tyN d)) := by
  cases d with
  | non => have h : Rep K H .non P v := h; unfold Rep at h; subst h; exact .base .non
  | bl b => have h : Rep K H (.bl b) P v := h; unfold Rep at h; subst h; exact .base (.bl b)
  | int i => have h : Rep K H (.int i) P v := h; unfold Rep at h; subst h; exact .base (.int i)
  | str x => have h : Rep K H (.str x) P v := h; unfold Rep at h; subst h; exact .base (.str x)
  | tup ds =>
    have h : Rep K H (.tup ds) P v := h
    unfold Rep at h
    obtain ⟨a, vs, rfl, h1, _⟩ := h
    exact .base (.tup h1)
  | lst ds =>
    obtain ⟨a, vs, rfl, h1, _⟩ := h
    exact .base (.lst h1)
  | arg ns =>
    obtain ⟨a, rfl, h1⟩ := h
    rcases h1 with (h1 | ⟨o, h1⟩) | ⟨ob, its, n, h1, h2, _⟩
    · exact .base (.lst h1)
    · exact .base (.frz h1)
    · exact .kList h1 h2
  | dik ks ds =>
    obtain ⟨a, vs, rfl, _, h1, _⟩ := h
    rcases h1 with h1 | ⟨o, h1⟩
    · exact .base (.dK h1)
    · exact .fDict h1
  | dit ks ds => cases hd
  | tab _ _ => cases hd
  | ftu ds =>
    have h : Rep K H (.ftu ds) P v := h
    unfold Rep at h
    obtain ⟨a, vs, o, rfl, h1, _⟩ := h
    exact .fTuple h1
def cIsi (f : D → Bool) (m : EM) : EM := fun ρ => do
  let (h, ρ1) ← m ρ
  let d ← (h.d ρ1).nox
  if (noDit d || isFt d) = true then pure (.fr (.bl (f d)), ρ1) else .stk
section
variable {X : Cx} {P0 : Pr} {O W : List Nat} {E : EK} {a : Expr} {ma : EM} {pos : Pos}
theorem ce_isi {T : String} {x : Str} {f : D → Bool} {p q : Pos} (hk : IsK T f) (hm : X.mg "isinstance" = none) (hm2 : X.mg x = none) (h : CEx X P0 O W E a ma) (hv : bootBuiltins "isinstance" = some (.builtin "isinstance")) (hv2 : bootBuiltins x = some (.type T))
    (hg : Gl X "isinstance" := by rfl) (hg2 : Gl X x := by rfl) (hn : x ≠ "__name__" := by decide) (hdb : (x == ("__debug__" : Str)) = false := by decide)
    (he : starEach [a, .Name x q] X.env = (false, eval a X.env) :: starEach [.Name x q] X.env := by rfl) (hpl : (backTo pos (starEach [.Name x q] X.env)).any (·.1) = false := by rfl) (he2 : starEach [.Name x q] X.env = (false, eval (.Name x q) X.env) :: starEach [] X.env := by rfl) : CEx X P0 O W E (.Call (.Name "isinstance" p) [a, .Name x q] [] pos) (cIsi f ma) :=
  PE.imp (pe_callB call_isi hg hm hv (pa_cons h (pa_cons (pe_bltn hg2 hm2 hv2 (v := .ty T) rfl hn hdb) pa_nil he2) he) (by decide) (by decide) he hpl) fun σ H Q ⟨ρ, S, h⟩ => by
    refine ⟨ρ, S, h.of_bind.mono fun ⟨hd, ρ1⟩ q v H1 S1 k1 r1 => ?_⟩
    obtain ⟨d, e1, q⟩ := q.of_nox
    by_cases c : (noDit d || isFt d) = true
    · rw [if_pos c] at q
      exact ⟨v, .ty T, _, _, f d, rfl, .ty T, tyX_of c (HdR.d S1 r1 e1), kit_ty (hk d), (out_of (K := X.K) S1 k1 q).bl⟩
    · rw [if_neg c] at q
      exact q.elim
end
end Y

set_option Elab.async false
set_option linter.all false
set_option maxRecDepth 100000
namespace Y
open PySem PySem.Spec PyProof.Rows L2
def sExpr (m : EM) : SM := fun ρ => do
  let (_, ρ1) ← m ρ
  pure (.nx, ρ1)
section
variable {K : PySem.W.Frag} {X : Cx} {P0 : Pr} {O W U : List Nat} {E : EK} {e : Expr} {ma : EM} {pos : Pos}
theorem cs_expr (h : CEx X P0 O W E e ma) (hs : swapsWith e none pos.line X.env = pure false := by rfl) : CS X P0 O W U E (.Expr e pos) (sExpr ma) := PS.imp (ps_expr h hs) fun D σ H ⟨ρ, S, h⟩ =>
  ⟨ρ, S, (h.of_bind.down S.sub).mono fun ⟨hd, ρ1⟩ q v H1 S1 k1 r1 => q σ H1 S1 (Tr.of S.sub k1) rfl⟩
/-- what the top binds -/
theorem def_mk {h : Heap} {mg : Str → Option Value} {x : Str} {st : Stmt} {f : Addr} {od an : Option Addr} {sl : Array (Option Value)} {oc kV dc pm cd ct : Value} (Z : K.In h) (G : h.Ns mainGlobals mg)
    (a : PySem.W.nsIn K mainGlobals x = some (some (.ref f))) (l : K.lookup f = some ⟨oc, od, .func (PySem.W.fnOf x x (defArgs st) (defBody st) (defScope st) .none kV dc pm an cd ct), sl⟩) (c : PySem.W.codeIn K cd x = true) (k : PySem.W.keepIn K (.ref f) = true) : Def K mg x st :=
  ⟨⟨f, _, PySem.W.mg_of Z G a, fun_mk l c k⟩⟩
end
theorem bo_len : bootBuiltins "len" = some (.builtin "len") := by decide +kernel
theorem bo_max : bootBuiltins "max" = some (.builtin "max") := by decide +kernel
theorem bo_min : bootBuiltins "min" = some (.builtin "min") := by decide +kernel
theorem bo_divmod : bootBuiltins "divmod" = some (.builtin "divmod") := by decide +kernel
theorem bo_sum : bootBuiltins "sum" = some (.builtin "sum") := by decide +kernel
theorem bo_all : bootBuiltins "all" = some (.builtin "all") := by decide +kernel
theorem bo_isinstance : bootBuiltins "isinstance" = some (.builtin "isinstance") := by decide +kernel
theorem bo_sorted : bootBuiltins "sorted" = some (.builtin "sorted") := by decide +kernel
theorem bo_tuple : bootBuiltins "tuple" = some (.type "tuple") := by decide +kernel
theorem bo_list : bootBuiltins "list" = some (.type "list") := by decide +kernel
theorem bo_bool : bootBuiltins "bool" = some (.type "bool") := by decide +kernel
theorem bo_str : bootBuiltins "str" = some (.type "str") := by decide +kernel
theorem bo_int : bootBuiltins "int" = some (.type "int") := by decide +kernel
theorem bo_dict : bootBuiltins "dict" = some (.type "dict") := by decide +kernel
theorem bo_set : bootBuiltins "set" = some (.type "set") := by decide +kernel
theorem _root_.L2.Room.units65 {k : Nat} {A : Around} (r : Room k A) : A.units + 65 < cLine := by have := r.un; omega
end Y

set_option Elab.async false
set_option linter.all false
set_option maxRecDepth 100000
namespace Y
open PySem PySem.Spec PyProof.Rows L2
end Y

set_option Elab.async false
set_option linter.all false
set_option maxRecDepth 100000
namespace Y
open PySem PySem.Spec PyProof.Rows L2
variable {ρ : Env}
@[simp] theorem e_look {i : Nat} : look i ρ = (match ρ[i]? with | some (some d) => .ok d | _ => .stk) := id rfl
@[simp] theorem e_var {i : Nat} : cVar i ρ = ((look i ρ).nox >>= fun d => R.ok (.vl d, ρ)) := id rfl
@[simp] theorem e_own {i : Nat} : cOwn i ρ = ((look i ρ).nox >>= fun _ => R.ok (.ow i, ρ)) := id rfl
@[simp] theorem e_c {d : D} : cC d ρ = .ok (.fr d, ρ) := id rfl
@[simp] theorem e_hfr {d : D} : Hd.d (.fr d) ρ = .ok d := id rfl
@[simp] theorem e_hvl {d : D} : Hd.d (.vl d) ρ = .ok d := id rfl
@[simp] theorem e_how {i : Nat} : Hd.d (.ow i) ρ = look i ρ := id rfl
@[simp] theorem e_vfr {d : D} : Hd.v (.fr d) = .ok d := id rfl
@[simp] theorem e_vvl {d : D} : Hd.v (.vl d) = .ok d := id rfl
@[simp] theorem e_vow {i : Nat} : Hd.v (.ow i) = .stk := id rfl
@[simp] theorem e_op {f : D → D → R D} {a b : EM} : cOp f a b ρ = (a ρ >>= fun p => b p.2 >>= fun q => (p.1.d q.2).nox >>= fun x => (q.1.d q.2).nox >>= fun y => (f x y).nox >>= fun z => R.ok (.fr z, q.2)) := id rfl
@[simp] theorem e_tru {m : EM} : cTru m ρ = (m ρ >>= fun p => (p.1.d p.2).nox >>= fun d => (truD d).nox >>= fun b => R.ok (b, p.2)) := id rfl
@[simp] theorem e_bl {m : EM} : cBl m ρ = (m ρ >>= fun p => p.1.v.nox >>= fun d => match d with | .bl b => R.ok (b, p.2) | _ => .stk) := id rfl
@[simp] theorem e_notT {m : BM} : cNotT m ρ = (m ρ >>= fun p => R.ok (!p.1, p.2)) := id rfl
@[simp] theorem e_andT {a b : BM} : cAndT a b ρ = (a ρ >>= fun p => if p.1 = true then b p.2 else R.ok (false, p.2)) := id rfl
@[simp] theorem e_orT {a b : BM} : cOrT a b ρ = (a ρ >>= fun p => if p.1 = true then R.ok (true, p.2) else b p.2) := id rfl
@[simp] theorem e_nil : cNil ρ = .ok ([], ρ) := id rfl
@[simp] theorem e_cons {a : EM} {as : AM} : cCons a as ρ = (a ρ >>= fun p => as p.2 >>= fun q => R.ok (p.1 :: q.1, q.2)) := id rfl
@[simp] theorem e_vs0 : vsOf [] = .ok [] := id rfl
@[simp] theorem e_vs1 {h : Hd} {hs : List Hd} : vsOf (h :: hs) = (h.v.nox >>= fun d => vsOf hs >>= fun ds => R.ok (d :: ds)) := id rfl
@[simp] theorem e_ds0 : dsOf [] ρ = .ok [] := id rfl
@[simp] theorem e_ds1 {h : Hd} {hs : List Hd} : dsOf (h :: hs) ρ = ((h.d ρ).nox >>= fun d => dsOf hs ρ >>= fun ds => R.ok (d :: ds)) := id rfl
@[simp] theorem e_and {a b : EM} : cAnd a b ρ = (a ρ >>= fun p => (p.1.d p.2).nox >>= fun d => (truD d).nox >>= fun k => if k = true then b p.2 else R.ok (p.1, p.2)) := id rfl
@[simp] theorem e_not {m : EM} : cNot m ρ = (m ρ >>= fun p => (p.1.d p.2).nox >>= fun d => (truD d).nox >>= fun k => R.ok (.fr (.bl (!k)), p.2)) := id rfl
@[simp] theorem e_chain {f g : D → D → R D} {a b c : EM} : cChain f g a b c ρ = (a ρ >>= fun p => b p.2 >>= fun q => (p.1.d q.2).nox >>= fun x => (q.1.d q.2).nox >>= fun y => (f x y).nox >>= fun z => match z with | .bl k => if k = true then (c q.2 >>= fun r => (q.1.d r.2).nox >>= fun y => (r.1.d r.2).nox >>= fun w => (g y w).nox >>= fun z => R.ok (.fr z, r.2)) else .ok (.fr (.bl false), q.2) | _ => .stk) := id rfl
@[simp] theorem e_neg {m : EM} : cNeg m ρ = (m ρ >>= fun p => p.1.v.nox >>= fun d => match d with | .int i => R.ok (.fr (.int (-i)), p.2) | _ => .stk) := id rfl
@[simp] theorem e_tup {m : AM} : cTup m ρ = (m ρ >>= fun p => (vsOf p.1).nox >>= fun ds => if szOk ds.length = true then R.ok (.fr (.tup ds), p.2) else .stk) := id rfl
@[simp] theorem e_lst {m : AM} : cLst m ρ = (m ρ >>= fun p => (vsOf p.1).nox >>= fun ds => if szOk ds.length = true then R.ok (.fr (.lst ds), p.2) else .stk) := id rfl
@[simp] theorem e_call {f : List D → R D} {m : AM} : cCall f m ρ = (m ρ >>= fun p => (dsOf p.1 p.2).nox >>= fun ds => (f ds).nox >>= fun z => R.ok (.fr z, p.2)) := id rfl
@[simp] theorem e_ix {a b : EM} : cIx a b ρ = (a ρ >>= fun p => b p.2 >>= fun q => (p.1.d q.2).nox >>= fun x => (q.1.d q.2).nox >>= fun y => (ixD x y).nox >>= fun z => R.ok (.vl z, q.2)) := id rfl
@[simp] theorem e_nopart : cNoPart ρ = .ok (none, ρ) := id rfl
@[simp] theorem e_part {m : EM} : cPart m ρ = (m ρ >>= fun p => p.1.v.nox >>= fun d => match d with | .int i => R.ok (some i, p.2) | _ => .stk) := id rfl
@[simp] theorem e_slice {a : EM} {lo hi : OM} : cSlice a lo hi ρ = (a ρ >>= fun p => lo p.2 >>= fun q => hi q.2 >>= fun r => (p.1.d r.2).nox >>= fun d => (sliceD d q.1 r.1).nox >>= fun z => R.ok (.fr z, r.2)) := id rfl
@[simp] theorem e_iter {m : EM} : cIter m ρ = (m ρ >>= fun p => (p.1.d p.2).nox >>= fun d => (itD d).nox >>= fun ds => if szOk ds.length = true then R.ok ((ds, p.1.ws), p.2) else .stk) := id rfl
@[simp] theorem e_range {f : List D → R (List D)} {m : AM} : cRange f m ρ = (m ρ >>= fun p => (vsOf p.1).nox >>= fun ds => (f ds).nox >>= fun xs => if szOk xs.length = true then R.ok ((xs, []), p.2) else .stk) := id rfl
@[simp] theorem e_yes : cYes ρ = .ok (true, ρ) := id rfl
@[simp] theorem e_isi {f : D → Bool} {m : EM} : cIsi f m ρ = (m ρ >>= fun p => (p.1.d p.2).nox >>= fun d => if (noDit d || isFt d) = true then R.ok (.fr (.bl (f d)), p.2) else .stk) := id rfl
@[simp] theorem e_callF {g : List D → R Hd} {m : AM} : cCallF g m ρ = (m ρ >>= fun p => (vsOf p.1).nox >>= fun ds => g ds >>= fun h => match h with | .ow _ => .stk | h => R.ok (h, p.2)) := id rfl
@[simp] theorem e_callIO {pr : List (Nat × Nat)} {g : Fn} {m : AM} : cCallIO pr g m ρ = (m ρ >>= fun p => if placed pr 0 p.1 = true then ((dsOf p.1 p.2).nox >>= fun ds => g ds >>= fun r => match r.1 with | .ow _ => .stk | h => R.ok (h, putOuts r.2 pr p.2)) else .stk) := id rfl
@[simp] theorem e_tmN {i : Nat} {d : D} : tmName i d ρ = .ok (ρ.set i (some d)) := id rfl
@[simp] theorem e_tmT {is : List Nat} {ds : List D} : tmTup is (.tup ds) ρ = if ds.length = is.length then .ok (setAll ρ is ds) else .stk := id rfl
@[simp] theorem e_sa0 {ds : List D} : setAll ρ [] ds = ρ := by unfold setAll; rfl
@[simp] theorem e_sa1 {i : Nat} {is : List Nat} {d : D} {ds : List D} : setAll ρ (i :: is) (d :: ds) = setAll (ρ.set i (some d)) is ds := id rfl
@[simp] theorem e_comp {im : IM} {tm : GM} {t : BM} {e : EM} {vs : List Nat} : cComp im tm t e vs ρ = (im ρ >>= fun p => (cCompL tm t e vs p.1.2 p.1.1 (wipeE p.2 vs)).nox >>= fun q => R.ok (.fr (.lst q.1), q.2)) := id rfl
@[simp] theorem e_skip : sSkip ρ = .ok (.nx, ρ) := id rfl
@[simp] theorem e_seq {m n : SM} : sSeq m n ρ = (m ρ >>= fun p => match p.1 with | .nx => n p.2 | f => R.ok (f, p.2)) := by
  unfold sSeq; congr
@[simp] theorem e_ret {m : EM} : sRet m ρ = (m ρ >>= fun p => R.ok (.rt p.1, p.2)) := id rfl
@[simp] theorem e_sif {t : BM} {m n : SM} : sIf t m n ρ = (t ρ >>= fun p => if p.1 = true then m p.2 else n p.2) := id rfl
@[simp] theorem e_asg {m : EM} {tm : GM} : sAsg m tm ρ = (m ρ >>= fun p => p.1.v.nox >>= fun d => (tm d p.2).nox >>= fun r => R.ok (.nx, r)) := id rfl
@[simp] theorem e_sown {O W : List Nat} {m : EM} {i : Nat} : sOwn O W m i ρ = (m ρ >>= fun p => match p.1 with | .fr d => ((chkO O W ρ p.2).nox >>= fun _ => if d.ownable = true then R.ok (.nx, p.2.set i (some d)) else .stk) | _ => .stk) := by
  unfold sOwn; congr
@[simp] theorem e_app {i : Nat} {m : EM} : sAppend i m ρ = ((lstAt i ρ).nox >>= fun _ => m ρ >>= fun p => p.1.v.nox >>= fun d => (lstAt i p.2).nox >>= fun ds => if szOk (ds.length + 1) = true then R.ok (.nx, p.2.set i (some (.lst (ds ++ [d])))) else .stk) := id rfl
@[simp] theorem e_lat {i : Nat} : lstAt i ρ = (match ρ[i]? with | some (some (.lst ds)) => .ok ds | _ => .stk) := id rfl
@[simp] theorem e_six {i : Nat} {mk mv : EM} : sSetIx i mk mv ρ = (mv ρ >>= fun p => p.1.v.nox >>= fun d => (lstAt i p.2).nox >>= fun _ => mk p.2 >>= fun q => q.1.v.nox >>= fun k => match k with | .int z => ((lstAt i q.2).nox >>= fun ds => match ixN ds.length z with | some j => R.ok (.nx, q.2.set i (some (.lst (ds.set j d)))) | none => .stk) | _ => .stk) := by
  unfold sSetIx; congr
@[simp] theorem e_expr {m : EM} : sExpr m ρ = (m ρ >>= fun p => R.ok (.nx, p.2)) := id rfl
@[simp] theorem e_for {U : List Nat} {im : IM} {tm : GM} {body : SM} {vs : List Nat} : sFor U im tm body vs ρ = (im ρ >>= fun p => if (p.1.2.all fun w => U.contains w) = true then forL tm body vs p.1.2 p.1.1 p.2 else .stk) := id rfl
@[simp] theorem e_w0 : wipeE ρ [] = ρ := id rfl
@[simp] theorem e_w1 {i : Nat} {is : List Nat} : wipeE ρ (i :: is) = (wipeE ρ is).set i none := id rfl
@[simp] theorem e_po0 {os : Env} : putOuts os [] ρ = ρ := id rfl
@[simp] theorem e_po1 {os : Env} {j i : Nat} {pr : List (Nat × Nat)} : putOuts os ((j, i) :: pr) ρ = (putOuts os pr ρ).set i (os.getD j none) := id rfl
@[simp] theorem e_pl0 {pr : List (Nat × Nat)} {j : Nat} : placed pr j [] = true := id rfl
@[simp] theorem e_pl1 {pr : List (Nat × Nat)} {j i : Nat} {hs : List Hd} : placed pr j (.ow i :: hs) = (pr.contains (j, i) && placed pr (j + 1) hs) := id rfl
@[simp] theorem e_pl2 {pr : List (Nat × Nat)} {j : Nat} {d : D} {hs : List Hd} : placed pr j (.vl d :: hs) = ((!pr.any fun p => p.1 == j) && placed pr (j + 1) hs) := id rfl
@[simp] theorem e_pl3 {pr : List (Nat × Nat)} {j : Nat} {d : D} {hs : List Hd} : placed pr j (.fr d :: hs) = ((!pr.any fun p => p.1 == j) && placed pr (j + 1) hs) := id rfl
@[simp] theorem e_rt0 {np : Nat} : retH np .nx ρ = .ok (.fr .non) := id rfl
@[simp] theorem e_rt1 {np : Nat} {d : D} : retH np (.rt (.fr d)) ρ = .ok (.fr d) := id rfl
@[simp] theorem e_rt2 {np : Nat} {d : D} : retH np (.rt (.vl d)) ρ = .ok (.vl d) := id rfl
@[simp] theorem e_rt3 {np i : Nat} : retH np (.rt (.ow i)) ρ = if np ≤ i then ((look i ρ).nox >>= fun d => R.ok (.fr d)) else .stk := id rfl
theorem e_fnP {np n : Nat} {m : SM} {ds : List D} : fnP np n m ds = (m (ds.map some ++ List.replicate (n - np) none) >>= fun p => (retH np p.1 p.2).nox) := rfl
theorem e_fnD {np n : Nat} {O : List Nat} {m : SM} {ds : List D} : fnD np n O m ds = (m (ds.map some ++ List.replicate (n - np) none) >>= fun p => (retH np p.1 p.2).nox >>= fun h => R.ok (h, outs O np p.2)) := rfl
@[simp] theorem e_outs1 {O : List Nat} : outs O 1 ρ = [if O.contains 0 = true then ρ.getD 0 none else none] := id rfl
@[simp] theorem e_outs2 {O : List Nat} : outs O 2 ρ = [if O.contains 0 = true then ρ.getD 0 none else none, if O.contains 1 = true then ρ.getD 1 none else none] := id rfl
@[simp] theorem e_outs3 {O : List Nat} : outs O 3 ρ = [if O.contains 0 = true then ρ.getD 0 none else none, if O.contains 1 = true then ρ.getD 1 none else none, if O.contains 2 = true then ρ.getD 2 none else none] := id rfl
@[simp] theorem e_outs4 {O : List Nat} : outs O 4 ρ = [if O.contains 0 = true then ρ.getD 0 none else none, if O.contains 1 = true then ρ.getD 1 none else none, if O.contains 2 = true then ρ.getD 2 none else none, if O.contains 3 = true then ρ.getD 3 none else none] := id rfl
@[simp] theorem e_outs5 {O : List Nat} : outs O 5 ρ = [if O.contains 0 = true then ρ.getD 0 none else none, if O.contains 1 = true then ρ.getD 1 none else none, if O.contains 2 = true then ρ.getD 2 none else none, if O.contains 3 = true then ρ.getD 3 none else none, if O.contains 4 = true then ρ.getD 4 none else none] := id rfl
end Y

set_option Elab.async false
set_option linter.all false
set_option maxRecDepth 100000
namespace Y
open PySem PySem.Spec PyProof.Rows L2
@[simp] theorem d_add {i j : Int} : addD (.int i) (.int j) = .ok (.int (i + j)) := id rfl
@[simp] theorem d_addT {x y : List D} : addD (.tup x) (.tup y) = if szOk (x.length + y.length) = true then .ok (.tup (x ++ y)) else .stk := id rfl
@[simp] theorem d_addL {x y : List D} : addD (.lst x) (.lst y) = if szOk (x.length + y.length) = true then .ok (.lst (x ++ y)) else .stk := id rfl
@[simp] theorem d_addS {x y : Str} : addD (.str x) (.str y) = if szOk (x.length + y.length) = true then .ok (.str (x ++ y)) else .stk := id rfl
@[simp] theorem d_sub {i j : Int} : subD (.int i) (.int j) = .ok (.int (i - j)) := id rfl
@[simp] theorem d_mul {i j : Int} : mulD (.int i) (.int j) = if mulOk i j = true then .ok (.int (i * j)) else .stk := id rfl
@[simp] theorem d_fdiv {i j : Int} : fdivD (.int i) (.int j) = if smallPos j = true then .ok (.int (i / j)) else .stk := id rfl
@[simp] theorem d_mod {i j : Int} : modD (.int i) (.int j) = if 0 < j then .ok (.int (i % j)) else .stk := id rfl
@[simp] theorem d_shl {i j : Int} : shlD (.int i) (.int j) = if shOk i j = true then .ok (.int (i * 2 ^ j.toNat)) else .stk := id rfl
@[simp] theorem d_shr {i j : Int} : shrD (.int i) (.int j) = if 0 ≤ j then .ok (.int (i / 2 ^ j.toNat)) else .stk := id rfl
@[simp] theorem d_and {i j : Int} : andD (.int i) (.int j) = .ok (.int (Builtin.bitAnd i j)) := id rfl
@[simp] theorem d_xor {i j : Int} : xorD (.int i) (.int j) = .ok (.int (Builtin.bitXor i j)) := id rfl
@[simp] theorem d_lt {i j : Int} : ltD (.int i) (.int j) = .ok (.bl (decide (i < j))) := id rfl
@[simp] theorem d_le {i j : Int} : leD (.int i) (.int j) = .ok (.bl (decide (i ≤ j))) := id rfl
@[simp] theorem d_gt {i j : Int} : gtD (.int i) (.int j) = .ok (.bl (decide (j < i))) := id rfl
@[simp] theorem d_ge {i j : Int} : geD (.int i) (.int j) = .ok (.bl (decide (j ≤ i))) := id rfl
@[simp] theorem d_lenT {x : List D} : lenD [.tup x] = .ok (.int x.length) := id rfl
@[simp] theorem d_lenL {x : List D} : lenD [.lst x] = .ok (.int x.length) := id rfl
@[simp] theorem d_lenA {x : List Int} : lenD [.arg x] = .ok (.int x.length) := id rfl
@[simp] theorem d_lenS {x : Str} : lenD [.str x] = if szOk x.length = true then .ok (.int x.length) else .stk := id rfl
@[simp] theorem d_max {i j : Int} : max2D [.int i, .int j] = .ok (.int (max i j)) := id rfl
@[simp] theorem d_min {i j : Int} : min2D [.int i, .int j] = .ok (.int (min i j)) := id rfl
@[simp] theorem d_divmod {i j : Int} : divmodD [.int i, .int j] = if smallPos j = true then .ok (.tup [.int (i / j), .int (i % j)]) else .stk := id rfl
@[simp] theorem d_tupL {x : List D} : tupleD [.lst x] = .ok (.tup x) := id rfl
@[simp] theorem d_tupT {x : List D} : tupleD [.tup x] = .ok (.tup x) := id rfl
@[simp] theorem d_lstL {x : List D} : listD [.lst x] = .ok (.lst x) := id rfl
@[simp] theorem d_lstT {x : List D} : listD [.tup x] = .ok (.lst x) := id rfl
@[simp] theorem d_intI {i : Int} : intOfD [.int i] = .ok (.int i) := id rfl
@[simp] theorem d_intB {k : Bool} : intOfD [.bl k] = .ok (.int (if k then 1 else 0)) := id rfl
@[simp] theorem d_ixT {x : List D} {i : Int} : ixD (.tup x) (.int i) = match atI x i with | some d => .ok d | none => .stk := id rfl
@[simp] theorem d_ixL {x : List D} {i : Int} : ixD (.lst x) (.int i) = match atI x i with | some d => .ok d | none => .stk := id rfl
@[simp] theorem d_ixA {x : List Int} {i : Int} : ixD (.arg x) (.int i) = match atI x i with | some n => .ok (.int n) | none => .stk := id rfl
@[simp] theorem d_slT {x : List D} {a b : Option Int} : sliceD (.tup x) a b = .ok (.tup (cutD x a b)) := id rfl
@[simp] theorem d_slL {x : List D} {a b : Option Int} : sliceD (.lst x) a b = .ok (.lst (cutD x a b)) := id rfl
@[simp] theorem d_itL {x : List D} : itD (.lst x) = .ok x := id rfl
@[simp] theorem d_itT {x : List D} : itD (.tup x) = .ok x := id rfl
@[simp] theorem d_itA {x : List Int} : itD (.arg x) = .ok (x.map D.int) := id rfl
@[simp] theorem d_rng1 {j : Int} : rng1D [.int j] = if rngOk j = true then .ok ((List.range j.toNat).map fun i => D.int (i : Nat)) else .stk := by
  show (if rngOk j = true then R.ok ((List.range j.toNat).map fun i => D.int (0 + (i : Nat))) else .stk) = _
  simp
@[simp] theorem d_truB {b : Bool} : truD (.bl b) = .ok b := id rfl
@[simp] theorem d_truN : truD .non = .ok false := id rfl
@[simp] theorem d_truI {i : Int} : truD (.int i) = .ok (i != 0) := id rfl
@[simp] theorem d_truL {x : List D} : truD (.lst x) = .ok (!x.isEmpty) := id rfl
@[simp] theorem d_truT {x : List D} : truD (.tup x) = .ok (!x.isEmpty) := id rfl
theorem ints_map : ∀ xs : List Int, intsOf (xs.map .int) = some xs
  | [] => rfl
  | x :: xs => by simp [intsOf, ints_map xs]
theorem bls_map : ∀ xs : List Bool, blsOf (xs.map .bl) = some xs
  | [] => rfl
  | x :: xs => by simp [blsOf, bls_map xs]
@[simp] theorem d_sum {xs : List Int} : sumD [.lst (xs.map .int)] = .ok (.int xs.sum) := by
  show (match intsOf (xs.map .int) with | some ns => R.ok (D.int ns.sum) | none => .stk) = _
  rw [ints_map]
@[simp] theorem d_all {xs : List Bool} : allD [.lst (xs.map .bl)] = .ok (.bl (xs.all id)) := by
  show (match blsOf (xs.map .bl) with | some ns => R.ok (D.bl (ns.all id)) | none => .stk) = _
  rw [bls_map]
theorem szOk_of {n : Nat} (h : n ≤ 16777216) : szOk n = true := decide_eq_true (show n ≤ sizeLine from by unfold sizeLine; omega)
theorem smallPos_of {j : Int} (h : 0 < j) (h2 : j < 1073741824) : smallPos j = true := decide_eq_true ⟨h, h2⟩
theorem rngOk_of {j : Int} (h : -4611686018427387904 ≤ j) (h2 : j < 4611686018427387904) : rngOk j = true := decide_eq_true ⟨by omega, by omega⟩
theorem mulOk_l {i j : Int} (h : i.natAbs < 2 ^ 64) : mulOk i j = true := by
  unfold mulOk
  rw [decide_eq_true h]
  rfl
theorem mulOk_r {i j : Int} (h : j.natAbs < 2 ^ 64) : mulOk i j = true := by
  unfold mulOk
  rw [decide_eq_true h]
  simp
theorem shOk_of {i j : Int} (h : 0 ≤ j) (h2 : j ≤ 1000000) (h3 : i.natAbs < 2 ^ 64) : shOk i j = true := decide_eq_true ⟨h, h2, h3⟩
@[simp] theorem sz0 : szOk 0 = true := by decide
@[simp] theorem sz1 : szOk 1 = true := by decide
@[simp] theorem sz2 : szOk 2 = true := by decide
@[simp] theorem sz3 : szOk 3 = true := by decide
theorem atI_of {α : Type} {xs : List α} {i : Int} {j : Nat} {x : α} (hi : i = j) (h : xs[j]? = some x) : atI xs i = some x := by
  have hj : j < xs.length := (List.getElem?_eq_some_iff.mp h).1
  unfold atI ixN
  subst hi
  rw [if_pos (by omega), if_pos (by omega)]
  show xs[(j : Int).toNat]? = some x
  rw [Int.toNat_natCast, h]
theorem atI_lt {α : Type} {xs : List α} {i : Int} (h0 : 0 ≤ i) (h : i < xs.length) : atI xs i = some (xs[i.toNat]'(by omega)) :=
  atI_of (j := i.toNat) (by omega) (List.getElem?_eq_getElem (by omega))
def eqPs : List D → List D → Bool
  | [], [] => true
  | x :: xs, y :: ys => eqP x y && eqPs xs ys
  | _, _ => false
theorem eqPs_py : ∀ xs ys : List D, PyData.eqvAll (toPys xs) (toPys ys) = eqPs xs ys
  | [], [] => by simp [toPys, PyData.eqvAll, eqPs]
  | [], _ :: _ => by simp [toPys, PyData.eqvAll, eqPs]
  | _ :: _, [] => by simp [toPys, PyData.eqvAll, eqPs]
  | x :: xs, y :: ys => by simp [toPys, PyData.eqvAll, eqPs, eqP, eqPs_py xs ys]
@[simp] theorem eqP_int {i j : Int} : eqP (.int i) (.int j) = (i == j) := by simp [eqP, toPy, PyData.eqv]
@[simp] theorem eqP_bl {i j : Bool} : eqP (.bl i) (.bl j) = (i == j) := by simp [eqP, toPy, PyData.eqv]
@[simp] theorem eqP_str {i j : Str} : eqP (.str i) (.str j) = (i == j) := by simp [eqP, toPy, PyData.eqv]
@[simp] theorem eqP_tup {xs ys : List D} : eqP (.tup xs) (.tup ys) = eqPs xs ys := by simp [eqP, toPy, PyData.eqv, eqPs_py]
@[simp] theorem eqP_lst {xs ys : List D} : eqP (.lst xs) (.lst ys) = eqPs xs ys := by simp [eqP, toPy, PyData.eqv, eqPs_py]
@[simp] theorem eqPs_ints : ∀ {xs ys : List Int}, eqPs (xs.map .int) (ys.map .int) = decide (xs = ys)
  | [], [] => by simp [eqPs]
  | [], _ :: _ => by simp [eqPs]
  | _ :: _, [] => by simp [eqPs]
  | x :: xs, y :: ys => by
    have ih := eqPs_ints (xs := xs) (ys := ys)
    simp only [List.map_cons, eqPs, eqP_int, ih, List.cons.injEq]
    by_cases h : x = y <;> simp [h]
/-- a depth that the machine bears; no dict; texts that it bears -/
def Fit : Nat → D → Prop
  | _, .non => True
  | _, .bl _ => True
  | _, .int _ => True
  | _, .str x => PyData.strOk x = true
  | n + 1, .tup ds => ∀ d ∈ ds, Fit n d
  | n + 1, .lst ds => ∀ d ∈ ds, Fit n d
  | n + 1, .ftu ds => ∀ d ∈ ds, Fit n d
  | _, _ => False
theorem fits_py {n : Nat} : ∀ {ds : List D}, (∀ d ∈ ds, (toPy d).canLay0 = true ∧ (toPy d).depth ≤ n) → PyData.canLayAll0 (toPys ds) = true ∧ PyData.depthAll (toPys ds) ≤ n
  | [], _ => by simp [toPys, PyData.canLayAll0, PyData.depthAll]
  | d :: ds, h => by
    have h1 := h d (by simp)
    have h2 := fits_py (ds := ds) fun e he => h e (by simp [he])
    simp only [toPys, PyData.canLayAll0, PyData.depthAll, h1.1, h2.1, Bool.and_self, true_and]
    omega
theorem fit_py : ∀ {n : Nat} {d : D}, Fit n d → (toPy d).canLay0 = true ∧ (toPy d).depth ≤ n
  | n, .non, _ => by simp [toPy, PyData.canLay0, PyData.depth]
  | n, .bl _, _ => by simp [toPy, PyData.canLay0, PyData.depth]
  | n, .int _, _ => by simp [toPy, PyData.canLay0, PyData.depth]
  | n, .str x, h => by
    have h : PyData.strOk x = true := by cases n <;> exact h
    simp [toPy, PyData.canLay0, PyData.depth, h]
  | 0, .tup ds, h => h.elim
  | 0, .lst ds, h => h.elim
  | n + 1, .tup ds, h => by
    have h : ∀ d ∈ ds, Fit n d := h
    have := fits_py fun d hd => fit_py (h d hd)
    simp only [toPy, PyData.canLay0, PyData.depth, this.1, true_and]
    omega
  | n + 1, .lst ds, h => by
    have h : ∀ d ∈ ds, Fit n d := h
    have := fits_py fun d hd => fit_py (h d hd)
    simp only [toPy, PyData.canLay0, PyData.depth, this.1, true_and]
    omega
  | 0, .ftu ds, h => h.elim
  | n + 1, .ftu ds, h => by
    have h : ∀ d ∈ ds, Fit n d := h
    have := fits_py fun d hd => fit_py (h d hd)
    simp only [toPy, PyData.canLay0, PyData.depth, this.1, true_and]
    omega
  | n, .arg _, h => by cases n <;> exact h.elim
  | n, .dik _ _, h => by cases n <;> exact h.elim
  | n, .dit _ _, h => by cases n <;> exact h.elim
  | n, .tab _ _, h => by cases n <;> exact h.elim
theorem dOk_fit {n : Nat} {d : D} (h : Fit n d) (hn : n ≤ 64 := by decide) : dOk d = true := by
  have := fit_py h
  unfold dOk SeqAt.shaped
  rw [this.1, decide_eq_true (by omega)]
  rfl
theorem fit_int {n : Nat} {i : Int} : Fit n (.int i) := by cases n <;> trivial
theorem fit_bl {n : Nat} {i : Bool} : Fit n (.bl i) := by cases n <;> trivial
theorem eqD_of {n : Nat} {x y : D} (hx : Fit n x) (hy : Fit n y) (hn : n ≤ 64 := by decide) : eqD x y = .ok (.bl (eqP x y)) := by
  unfold eqD
  rw [dOk_fit hx hn, dOk_fit hy hn]
  rfl
theorem neD_of {n : Nat} {x y : D} (hx : Fit n x) (hy : Fit n y) (hn : n ≤ 64 := by decide) : neD x y = .ok (.bl (!eqP x y)) := by
  unfold neD
  rw [dOk_fit hx hn, dOk_fit hy hn]
  rfl
@[simp] theorem eqD_int {i j : Int} : eqD (.int i) (.int j) = .ok (.bl (decide (i = j))) := by
  rw [eqD_of (n := 0) (by unfold Fit; trivial) (by unfold Fit; trivial), eqP_int]
  by_cases h : i = j <;> simp [h]
@[simp] theorem neD_int {i j : Int} : neD (.int i) (.int j) = .ok (.bl (!decide (i = j))) := by
  rw [neD_of (n := 0) (by unfold Fit; trivial) (by unfold Fit; trivial), eqP_int]
  by_cases h : i = j <;> simp [h]
theorem eqPs_refl : ∀ {ds : List D}, (∀ d ∈ ds, eqP d d = true) → eqPs ds ds = true
  | [], _ => rfl
  | d :: ds, h => by simp [eqPs, h d (by simp), eqPs_refl (ds := ds) fun e he => h e (by simp [he])]
theorem eqP_refl : ∀ {n : Nat} {d : D}, Fit n d → eqP d d = true
  | n, .non, _ => by simp [eqP, toPy, PyData.eqv]
  | n, .bl _, _ => by simp
  | n, .int _, _ => by simp
  | n, .str x, h => by simp
  | 0, .tup ds, h => h.elim
  | 0, .lst ds, h => h.elim
  | n + 1, .tup ds, h => by
    have h : ∀ d ∈ ds, Fit n d := h
    rw [eqP_tup]
    exact eqPs_refl fun d hd => eqP_refl (h d hd)
  | n + 1, .lst ds, h => by
    have h : ∀ d ∈ ds, Fit n d := h
    rw [eqP_lst]
    exact eqPs_refl fun d hd => eqP_refl (h d hd)
  | 0, .ftu ds, h => h.elim
  | n + 1, .ftu ds, h => by
    have h : ∀ d ∈ ds, Fit n d := h
    rw [show eqP (.ftu ds) (.ftu ds) = eqPs ds ds from eqP_tup]
    exact eqPs_refl fun d hd => eqP_refl (h d hd)
  | n, .arg _, h => by cases n <;> exact h.elim
  | n, .dik _ _, h => by cases n <;> exact h.elim
  | n, .dit _ _, h => by cases n <;> exact h.elim
  | n, .tab _ _, h => by cases n <;> exact h.elim
def ChkL (O W : List Nat) : Nat → Env → Env → Prop
  | _, _, [] => True
  | j, x :: xs, y :: ys => (y = none ∨ (y = x ∧ j ∉ W) ∨ (∃ d, y = some d ∧ ((j ∈ O ∧ d.shallow = true) ∨ d.nl = true))) ∧ ChkL O W (j + 1) xs ys
  | _, [], _ :: _ => False
theorem ChkL.at {O W : List Nat} : ∀ {ρ ρ' : Env} {k j : Nat} {d : D}, ChkL O W k ρ ρ' → ρ'[j]? = some (some d) → (ρ[j]? = some (some d) ∧ k + j ∉ W) ∨ (k + j ∈ O ∧ d.shallow = true) ∨ d.nl = true
  | _, [], _, _, _, _, e => by simp at e
  | [], _ :: _, _, _, _, h, _ => h.elim
  | x :: xs, y :: ys, k, 0, d, h, e => by
    simp at e
    subst e
    rcases h.1 with h | ⟨h, w⟩ | ⟨d', h, w⟩
    · cases h
    · exact .inl ⟨by simp [h], w⟩
    · cases h; exact .inr w
  | x :: xs, y :: ys, k, j + 1, d, h, e => by
    have := ChkL.at (j := j) h.2 (by simpa using e)
    rw [show k + (j + 1) = k + 1 + j by omega]
    simpa using this
theorem chkO_of {O W : List Nat} {ρ ρ' : Env} (h : ChkL O W 0 ρ ρ') : chkO O W ρ ρ' = .ok () := by
  unfold chkO
  rw [if_pos]
  intro j d e
  have := h.at e
  rwa [Nat.zero_add] at this
@[simp] theorem e_wsf {d : D} : Hd.ws (.fr d) = [] := id rfl
@[simp] theorem e_wsv {d : D} : Hd.ws (.vl d) = [] := id rfl
@[simp] theorem e_wso {i : Nat} : Hd.ws (.ow i) = [i] := id rfl
def shAt (i : Nat) (ρ : Y.Env) : Bool := match ρ[i]? with | some (some d) => d.shallow | _ => true
@[simp] theorem chkO_w1 {O : List Nat} {i : Nat} {ρ : Y.Env} (hi : i ∈ O) (h : shAt i ρ = true) : chkO O [i] ρ ρ = .ok () := by
  unfold chkO
  rw [if_pos]
  intro j d e
  by_cases c : j = i
  · subst c
    unfold shAt at h
    rw [e] at h
    exact .inr (.inl ⟨hi, h⟩)
  · exact .inl ⟨e, by simpa using c⟩
@[simp] theorem shL {ds : List D} : D.shallow (.lst ds) = nls ds := id rfl
@[simp] theorem nls0 : nls [] = true := by simp [nls]
@[simp] theorem nls1 {d : D} {ds : List D} : nls (d :: ds) = (d.nl && nls ds) := by simp [nls]
@[simp] theorem nlI {i : Int} : D.nl (.int i) = true := by simp [D.nl]
@[simp] theorem nlB {i : Bool} : D.nl (.bl i) = true := by simp [D.nl]
@[simp] theorem nlS {i : Str} : D.nl (.str i) = true := by simp [D.nl]
@[simp] theorem nlN : D.nl .non = true := by simp [D.nl]
@[simp] theorem nlT {ds : List D} : D.nl (.tup ds) = nls ds := by simp [D.nl]
@[simp] theorem owL {ds : List D} : D.ownable (.lst ds) = true := id rfl
theorem nls_all : ∀ {ds : List D}, (∀ d ∈ ds, d.nl = true) → nls ds = true
  | [], _ => by simp
  | d :: ds, h => by simp [h d (by simp), nls_all fun e he => h e (List.mem_cons_of_mem _ he)]
@[simp] theorem nls_ints {xs : List Int} : nls (xs.map D.int) = true := nls_all fun d h => by
  obtain ⟨x, _, rfl⟩ := List.mem_map.mp h
  simp
/-- one turn of a comprehension; of a for -/
def turnC (tm : GM) (t : BM) (e : EM) (vs : List Nat) (x : D) (ρ : Env) : R (Option D × Env) :=
  tm x ρ >>= fun ρ1 => t ρ1 >>= fun p => if p.1 = true then (e p.2 >>= fun q => q.1.v >>= fun d => R.ok (some d, wipeE q.2 vs)) else R.ok (none, wipeE p.2 vs)
def turnF (tm : GM) (body : SM) (vs : List Nat) (x : D) (ρ : Env) : R (Fl × Env) :=
  (tm x ρ).nox >>= fun ρ1 => body ρ1 >>= fun p => match p.1 with | .nx => R.ok (.nx, wipeE p.2 vs) | .ct => R.ok (.nx, wipeE p.2 vs) | f => R.ok (f, p.2)
theorem comp_cons {tm : GM} {t : BM} {e : EM} {vs ws : List Nat} {x : D} {xs ys : List D} {ρ ρ' ρf : Env} {o : Option D} (h : turnC tm t e vs x ρ = .ok (o, ρ')) (hw : ∀ w ∈ ws, ρ'[w]? = ρ[w]?) (h2 : cCompL tm t e vs ws xs ρ' = .ok (ys, ρf)) : cCompL tm t e vs ws (x :: xs) ρ = .ok (o.toList ++ ys, ρf) := by
  have ck : chk ws ρ ρ' = .ok () := by unfold chk; rw [if_pos hw]
  unfold turnC at h
  obtain ⟨ρ1, e1, h⟩ := R.ok_of h
  obtain ⟨⟨k, ρ2⟩, e3, h⟩ := R.ok_of h
  unfold cCompL
  rw [e1]
  simp only [R.bind_ok]
  rw [e3]
  cases k with
  | false =>
    have h : R.ok (none, wipeE ρ2 vs) = R.ok (o, ρ') := h
    cases h
    simp only [R.bind_ok, Bool.false_eq_true, if_false]
    rw [ck]
    exact h2
  | true =>
    have h : (e ρ2 >>= fun q => q.1.v >>= fun d => R.ok (some d, wipeE q.2 vs)) = R.ok (o, ρ') := h
    obtain ⟨⟨hd, ρ3⟩, e4, h⟩ := R.ok_of h
    obtain ⟨d, e5, h⟩ := R.ok_of h
    cases h
    simp only [R.bind_ok, if_true]
    rw [e4]
    simp only [R.bind_ok]
    rw [show hd.v = _ from e5]
    simp only [R.bind_ok]
    rw [ck]
    simp only [R.bind_ok]
    rw [h2]
    rfl
theorem for_cons {tm : GM} {body : SM} {vs ws : List Nat} {x : D} {xs : List D} {ρ ρ' : Env} {r : R (Fl × Env)} (h : turnF tm body vs x ρ = .ok (.nx, ρ')) (hw : ∀ w ∈ ws, ρ'[w]? = ρ[w]?) (h2 : forL tm body vs ws xs ρ' = r) : forL tm body vs ws (x :: xs) ρ = r := by
  have ck : chk ws ρ ρ' = .ok () := by unfold chk; rw [if_pos hw]
  unfold turnF at h
  obtain ⟨ρ1, e1, h⟩ := R.ok_of h
  obtain ⟨⟨f, ρ2⟩, e3, h⟩ := R.ok_of h
  unfold forL
  rw [e1]
  simp only [R.bind_ok]
  rw [e3]
  cases f with
  | nx =>
    have h : R.ok (Fl.nx, wipeE ρ2 vs) = R.ok (Fl.nx, ρ') := h
    cases h
    simp only [R.bind_ok]
    rw [ck]
    exact h2
  | ct =>
    have h : R.ok (Fl.nx, wipeE ρ2 vs) = R.ok (Fl.nx, ρ') := h
    cases h
    simp only [R.bind_ok]
    rw [ck]
    exact h2
  | bk => cases h
  | rt _ => cases h
/-- the loop ends in this turn -/
theorem for_rt {tm : GM} {body : SM} {vs ws : List Nat} {x : D} {xs : List D} {ρ ρ' : Env} {hd : Hd} (h : turnF tm body vs x ρ = .ok (.rt hd, ρ')) : forL tm body vs ws (x :: xs) ρ = .ok (.rt hd, ρ') := by
  unfold turnF at h
  obtain ⟨ρ1, e1, h⟩ := R.ok_of h
  obtain ⟨⟨f, ρ2⟩, e3, h⟩ := R.ok_of h
  unfold forL
  rw [e1]
  simp only [R.bind_ok]
  rw [e3]
  cases f with
  | nx => cases h
  | ct => cases h
  | bk => cases h
  | rt _ => cases h; rfl
section
variable {α : Type}
/-- the yields of a comprehension and the state behind it -/
def yields {S : Type} (next : S → α → S) (out : S → α → Option D) : List α → S → List D × S
  | [], s => ([], s)
  | x :: xs, s => ((out s x).toList ++ (yields next out xs (next s x)).1, (yields next out xs (next s x)).2)
/-- a comprehension that changes nothing: f is what it yields -/
theorem comp_map {tm : GM} {t : BM} {e : EM} {vs ws : List Nat} {ρ : Env} (F f : α → D) : ∀ (xs : List α),
    (∀ x ∈ xs, turnC tm t e vs (F x) ρ = .ok (some (f x), ρ)) → cCompL tm t e vs ws (xs.map F) ρ = .ok (xs.map f, ρ)
  | [], _ => rfl
  | x :: xs, h => comp_cons (h x (by simp)) (fun _ _ => rfl) (comp_map F f xs fun y hy => h y (by simp [hy]))
/-- .. with a test p, yields f -/
theorem comp_filter {tm : GM} {t : BM} {e : EM} {vs ws : List Nat} {ρ : Env} (F : α → D) (p : α → Bool) (f : α → D) : ∀ (xs : List α),
    (∀ x ∈ xs, turnC tm t e vs (F x) ρ = .ok (if p x = true then some (f x) else none, ρ)) → cCompL tm t e vs ws (xs.map F) ρ = .ok ((xs.filter p).map f, ρ)
  | [], _ => rfl
  | x :: xs, h => by
    have := comp_cons (ws := ws) (h x (by simp)) (fun _ _ => rfl) (comp_filter F p f xs fun y hy => h y (by simp [hy]))
    rw [List.map_cons, this]
    cases hp : p x with
    | false => rw [List.filter_cons_of_neg (by simp [hp])]; rfl
    | true => rw [List.filter_cons_of_pos hp]; rfl
/-- for: states -/
theorem for_run {S : Type} {tm : GM} {body : SM} {vs ws : List Nat} (F : α → D) (rho : S → Env) (next : S → α → S) (I : S → Prop) : ∀ (xs : List α) (s : S), I s →
    (∀ s x, I s → x ∈ xs → I (next s x) ∧ (∀ w ∈ ws, (rho (next s x))[w]? = (rho s)[w]?) ∧ turnF tm body vs (F x) (rho s) = .ok (.nx, rho (next s x))) →
    forL tm body vs ws (xs.map F) (rho s) = .ok (.nx, rho (xs.foldl next s)) ∧ I (xs.foldl next s)
  | [], s, hs, _ => ⟨rfl, hs⟩
  | x :: xs, s, hs, h => by
    obtain ⟨h1, hw, h2⟩ := h s x hs (by simp)
    have ih := for_run F rho next I xs (next s x) h1 fun s y hs hy => h s y hs (by simp [hy])
    exact ⟨for_cons h2 hw ih.1, ih.2⟩
/-- for: by the turn's number -/
theorem for_idx {tm : GM} {body : SM} {vs ws : List Nat} (F : α → D) : ∀ (xs : List α) (rho : Nat → Env),
    (∀ i (h : i < xs.length), (∀ w ∈ ws, (rho (i + 1))[w]? = (rho i)[w]?) ∧ turnF tm body vs (F xs[i]) (rho i) = .ok (.nx, rho (i + 1))) → forL tm body vs ws (xs.map F) (rho 0) = .ok (.nx, rho xs.length)
  | [], rho, _ => rfl
  | x :: xs, rho, h => by
    have h0 := h 0 (by simp)
    have ih := for_idx F xs (fun i => rho (i + 1)) fun i hi => h (i + 1) (by simp; omega)
    exact for_cons h0.2 h0.1 ih
theorem for_rng {tm : GM} {body : SM} {vs ws : List Nat} {n : Nat} (F : Nat → D) (rho : Nat → Env) (h : ∀ i, i < n → (∀ w ∈ ws, (rho (i + 1))[w]? = (rho i)[w]?) ∧ turnF tm body vs (F i) (rho i) = .ok (.nx, rho (i + 1))) : forL tm body vs ws ((List.range n).map F) (rho 0) = .ok (.nx, rho n) := by
  have := for_idx (tm := tm) (body := body) (vs := vs) (ws := ws) F (List.range n) rho fun i hi => by
    rw [List.getElem_range]
    exact h i (by simpa using hi)
  rwa [List.length_range] at this
/-- a comprehension whose turns change what stands: something of each yield -/
theorem comp_ex {S β : Type} {tm : GM} {t : BM} {e : EM} {vs ws : List Nat} (F : α → D) (G : β → D) (rho : S → Env) (P : β → Prop) : ∀ (xs : List α) (s : S),
    (∀ s x, x ∈ xs → ∃ y s', turnC tm t e vs (F x) (rho s) = .ok (some (G y), rho s') ∧ P y ∧ (∀ w ∈ ws, (rho s')[w]? = (rho s)[w]?)) →
    ∃ (ys : List β) (s' : S), cCompL tm t e vs ws (xs.map F) (rho s) = .ok (ys.map G, rho s') ∧ ys.length = xs.length ∧ ∀ y ∈ ys, P y
  | [], s, _ => ⟨[], s, rfl, rfl, by simp⟩
  | x :: xs, s, h => by
    obtain ⟨y, s1, e1, p1, w1⟩ := h s x (by simp)
    obtain ⟨ys, s2, e2, l2, p2⟩ := comp_ex F G rho P xs s1 fun s y hy => h s y (by simp [hy])
    exact ⟨y :: ys, s2, comp_cons e1 w1 e2, by simp [l2], by simpa using ⟨p1, p2⟩⟩
theorem comp_exF {S : Type} {tm : GM} {t : BM} {e : EM} {vs ws : List Nat} (F G : α → D) (rho : S → Env) : ∀ (xs : List α) (s : S),
    (∀ s x, x ∈ xs → ∃ b s', turnC tm t e vs (F x) (rho s) = .ok (if b = true then some (G x) else none, rho s') ∧ (∀ w ∈ ws, (rho s')[w]? = (rho s)[w]?)) →
    ∃ (ys : List α) (s' : S), cCompL tm t e vs ws (xs.map F) (rho s) = .ok (ys.map G, rho s') ∧ ys.Sublist xs
  | [], s, _ => ⟨[], s, rfl, List.Sublist.slnil⟩
  | x :: xs, s, h => by
    obtain ⟨b, s1, e1, w1⟩ := h s x (by simp)
    obtain ⟨ys, s2, e2, l2⟩ := comp_exF F G rho xs s1 fun s y hy => h s y (by simp [hy])
    have := comp_cons e1 w1 e2
    cases b with
    | true => exact ⟨x :: ys, s2, this, l2.cons₂ x⟩
    | false => exact ⟨ys, s2, this, l2.cons x⟩
end
end Y

set_option Elab.async false
set_option linter.all false
set_option maxRecDepth 100000
namespace Y
open PySem PySem.Spec PyProof.Rows L2
section
variable {K : PySem.W.Frag} {X : Cx} {P0 : Pr} {O W U : List Nat} {E : EK} {a b e : Expr} {es : List Expr} {ma mb : EM} {ms : AM} {pos : Pos}
def sortI (ns : List Int) : List Int := ns.mergeSort (fun a b => decide (a ≤ b))
theorem sortI_perm (ns : List Int) : (sortI ns).Perm ns := List.mergeSort_perm _ _
theorem sortI_pw (ns : List Int) : (sortI ns).Pairwise (· ≤ ·) := by
  have := List.pairwise_mergeSort (le := fun a b : Int => decide (a ≤ b)) (fun a b c h1 h2 => by simp at *; omega) (fun a b => by simp; omega) ns
  exact this.imp fun h => by simpa using h
theorem sortI_of {ns ms : List Int} (p : ms.Perm ns) (h : ms.Pairwise (· ≤ ·)) : ms = sortI ns :=
  List.Perm.eq_of_pairwise (le := fun a b : Int => a ≤ b) (fun a b _ _ h1 h2 => by omega) h (sortI_pw ns) (p.trans (sortI_perm ns).symm)
theorem Keep.ownW {i : Nat} {l : Addr} {o : HO} {σ : St} {H H1 : Hp} (k : Keep W σ H H1) (hi : i ∈ W) (ha : σ[i]? = Option.some (Option.some (V.ref l))) : Keep W σ H (upd H1 l o) where
  keep := fun b u e n => by
    rw [upd_ne fun (z : b = l) => n ⟨i, hi, by rw [z]; exact ha⟩]
    exact k.keep b u e n
  some := fun b e => by
    by_cases hb : b = l
    · rw [hb, upd_same]; intro z; cases z
    · rw [upd_ne hb]; exact k.some b e
theorem Reps.erase {H : Hp} {P : Pr} : ∀ {ds : List D} {vs : List V} (k : Nat), Reps K H ds P vs → Reps K H (ds.eraseIdx k) P (vs.eraseIdx k)
  | [], _, k, h => by rw [h.nil_iff]; simp; exact Reps.nil
  | d :: ds, _, 0, h => by
    obtain ⟨v, ws, rfl, h1, h2⟩ := h.cons_iff
    exact h2
  | d :: ds, _, k + 1, h => by
    obtain ⟨v, ws, rfl, h1, h2⟩ := h.cons_iff
    exact Reps.cons h1 (Reps.erase k h2)
end
end Y

set_option Elab.async false
set_option linter.all false
set_option maxRecDepth 100000
set_option maxHeartbeats 4000000
namespace Y
open PySem PySem.Spec PyProof.Rows L2
def ltL : List Int → List Int → Bool
  | [], [] => false
  | [], _ :: _ => true
  | _ :: _, [] => false
  | x :: xs, y :: ys => if x = y then ltL xs ys else decide (x < y)
theorem ltL_asym : ∀ {a b : List Int}, ltL a b = true → ltL b a = false
  | [], [], h => by simp [ltL] at h
  | [], _ :: _, _ => rfl
  | _ :: _, [], h => by simp [ltL] at h
  | x :: xs, y :: ys, h => by
    unfold ltL at h ⊢
    by_cases e : x = y
    · rw [if_pos e] at h
      rw [if_pos e.symm]
      exact ltL_asym h
    · rw [if_neg e, decide_eq_true_eq] at h
      rw [if_neg fun z => e z.symm, decide_eq_false_iff_not]
      omega
theorem ltL_tr : ∀ {a b c : List Int}, ltL b a = false → ltL c b = false → ltL c a = false
  | a, b, [], h1, h2 => by
    cases b with
    | nil => exact h1
    | cons => simp [ltL] at h2
  | [], b, z :: zs, _, _ => rfl
  | x :: xs, [], z :: zs, h1, _ => by simp [ltL] at h1
  | x :: xs, y :: ys, z :: zs, h1, h2 => by
    unfold ltL at h1 h2 ⊢
    by_cases e1 : y = x
    · rw [if_pos e1] at h1
      by_cases e2 : z = y
      · rw [if_pos e2] at h2
        rw [if_pos (e2.trans e1)]
        exact ltL_tr h1 h2
      · rw [if_neg e2, decide_eq_false_iff_not] at h2
        rw [if_neg (by omega), decide_eq_false_iff_not]
        omega
    · rw [if_neg e1, decide_eq_false_iff_not] at h1
      by_cases e2 : z = y
      · rw [if_neg (by omega), decide_eq_false_iff_not]
        omega
      · rw [if_neg e2, decide_eq_false_iff_not] at h2
        rw [if_neg (by omega), decide_eq_false_iff_not]
        omega
theorem ltL_eq : ∀ {a b : List Int}, ltL a b = false → ltL b a = false → a = b
  | [], [], _, _ => rfl
  | [], _ :: _, h, _ => by simp [ltL] at h
  | _ :: _, [], _, h => by simp [ltL] at h
  | x :: xs, y :: ys, h1, h2 => by
    unfold ltL at h1 h2
    by_cases e : x = y
    · rw [if_pos e] at h1
      rw [if_pos e.symm] at h2
      rw [e, ltL_eq h1 h2]
    · rw [if_neg e, decide_eq_false_iff_not] at h1
      rw [if_neg fun z => e z.symm, decide_eq_false_iff_not] at h2
      omega
theorem ltL_swo {β : Type} (k : β → List Int) : SrtO.Swo fun v u => ltL (k v) (k u) := ⟨fun _ _ h => ltL_asym h, fun _ _ _ h1 h2 => ltL_tr h1 h2⟩
def sortL (xs : List (List Int)) : List (List Int) := xs.mergeSort fun a b => !ltL b a
theorem sortL_perm (xs : List (List Int)) : (sortL xs).Perm xs := List.mergeSort_perm _ _
theorem sortL_pw (xs : List (List Int)) : (sortL xs).Pairwise fun a b => ltL b a = false := by
  have := List.pairwise_mergeSort (le := fun a b : List Int => !ltL b a) (fun a b c h1 h2 => by
    simp only [Bool.not_eq_true'] at *
    exact ltL_tr h1 h2) (fun a b => by
    cases e : ltL b a with
    | false => rfl
    | true => simp [ltL_asym e]) xs
  exact this.imp fun h => by simpa using h
theorem sortL_of {xs ys : List (List Int)} (p : ys.Perm xs) (h : ys.Pairwise fun a b => ltL b a = false) : ys = sortL xs :=
  List.Perm.eq_of_pairwise (le := fun a b : List Int => ltL b a = false) (fun a b _ _ h1 h2 => ltL_eq h2 h1) h (sortL_pw xs) (p.trans (sortL_perm xs).symm)
def TupV (h : Heap) (v : Value) (ns : List Int) : Prop := ∃ a o its n, v = .ref a ∧ h.get? a = some o ∧ o.cls = .type "tuple" ∧ o.data = .seq its n ∧ IntsAre its.toList ns
theorem TupV.at {h g : Heap} {v : Value} {ns : List Int} (p : TupV h v ns) (k : ∀ b o, h.get? b = some o → o.cls = .type "tuple" → g.get? b = some o) : TupV g v ns :=
  let ⟨a, o, its, n, e, ho, c, d, i⟩ := p
  ⟨a, o, its, n, e, k _ _ ho c, c, d, i⟩
section
variable {prog : Program} {w : World} {A : Around} {E : Value → Shared → Prop} {s : Shared}
/-- two tuples' items in turn -/
theorem lexI {b fin : Bool} {Q : Bool → Shared → Prop} : ∀ {xs ys : List Value} {ns ms : List Int} (i : Nat), IntsAre xs ns → IntsAre ys ms → ((ns.length < ms.length ↔ fin = true) → True) →
    (∀ r, (∀ k, ns.take k = ms.take k → k = min ns.length ms.length → r = fin) → (¬ (ns.take (min ns.length ms.length) = ms.take (min ns.length ms.length)) → r = ltL ns ms) → Q r s) → PySem.W.KatLex prog w A b fin Q (xs.zip ys) i s
  | _, _, _, _, i, .nil, _, _, q => PySem.W.kat_nil (q fin (fun _ _ _ => rfl) fun z => by simp at z)
  | _, _, _, _, i, .cons n t r, .nil, _, q => PySem.W.kat_nil (q fin (fun _ _ _ => rfl) fun z => by simp at z)
  | _, _, _, _, i, .cons n t r1, .cons m u r2, _, q => by
    rw [List.zip_cons_cons]
    refine PySem.W.kat_cons (SeqAt.EqAt.int_int n t m u prog w _ _ ?_)
    refine PySem.W.kat_go (fun e1 => ?_) (fun e1 => ?_)
    · obtain rfl : n = m := by simpa using e1
      refine PySem.W.kat_yes (lexI (i + 1) r1 r2 (fun _ => trivial) fun r h1 h2 => q r (fun k hk hm => ?_) fun hn => ?_)
      · rw [List.length_cons, List.length_cons, Nat.succ_min_succ] at hm
        subst hm
        exact h1 _ (by simpa using hk) rfl
      · rw [h2 fun z => hn (by rw [List.length_cons, List.length_cons, Nat.succ_min_succ, List.take_succ_cons, List.take_succ_cons, z])]
        simp [ltL]
    · have ne : ¬ n = m := by simpa using e1
      have fin' : Q (decide (n < m)) s := q _ (fun k hk hm => by
        rw [List.length_cons, List.length_cons, Nat.succ_min_succ] at hm
        subst hm
        simp only [List.take_succ_cons, List.cons.injEq] at hk
        exact absurd hk.1 ne) fun _ => by simp [ltL, ne]
      refine PySem.W.kat_no ?_
      cases hb : (b && i == 0) with
      | true => exact oneLt_int fin'
      | false => exact PySem.W.kat_one _ _ (PyProof.Rows.lt_int fin')
theorem ltL_fin : ∀ {ns ms : List Int}, ns.take (min ns.length ms.length) = ms.take (min ns.length ms.length) → ltL ns ms = decide (ns.length < ms.length)
  | [], [], _ => rfl
  | [], _ :: _, _ => by simp [ltL]
  | _ :: _, [], _ => by simp [ltL]
  | x :: xs, y :: ys, h => by
    rw [List.length_cons, List.length_cons, Nat.succ_min_succ, List.take_succ_cons, List.take_succ_cons, List.cons.injEq] at h
    unfold ltL
    rw [if_pos h.1, ltL_fin h.2, List.length_cons, List.length_cons]
    simp
theorem tup_cmp {vs : List Value} {k : Value → List Int} {c : Bool} (hp : ∀ v ∈ vs, TupV s.heap v (k v)) : SrtO.Cmp prog w A s (tuples' c) (fun p => p.1 ∈ vs) (SrtO.lt2 fun v u => ltL (k v) (k u)) := by
  intro p q mp mq
  have g1 := hp _ mp
  have g2 := hp _ mq
  show wpAny (model prog w) A (keyLt' (tuples' c) p.1 q.1) (fun r s' => s' = s ∧ r = ltL (k p.1) (k q.1)) (fun _ _ => False) s
  generalize k p.1 = ns at g1 ⊢
  generalize k q.1 = ms at g2 ⊢
  obtain ⟨a, o, xs, n, e, ho, hc, hd, hi⟩ := g1
  obtain ⟨a', o', ys, n', e', ho', hc', hd', hi'⟩ := g2
  rw [e, e']
  refine PySem.W.kat_lt ho hd ho' hd' (lexI 0 hi hi' (fun _ => trivial) fun r h1 h2 => ⟨rfl, ?_⟩)
  by_cases z : ns.take (min ns.length ms.length) = ms.take (min ns.length ms.length)
  · rw [h1 _ z rfl, ltL_fin z, ← hi.length, ← hi'.length, Array.length_toList, Array.length_toList]
  · exact h2 z
theorem tup_firsts {h : Heap} {k : Value → List Int} : ∀ {vs : List Value}, (∀ v ∈ vs, TupV h v (k v) ∧ k v ≠ []) → ∃ fs : List Value, PySem.W.KatTups h vs fs ∧ fs.length = vs.length ∧ ∀ f ∈ fs, ∃ x t, f = Value.int x t
  | [], _ => ⟨[], trivial, rfl, fun _ z => nomatch z⟩
  | v :: vs, hp => by
    obtain ⟨fs, t1, t2, t3⟩ := tup_firsts (vs := vs) fun u hu => hp u (by simp [hu])
    obtain ⟨⟨a, o, xs, n, e, ho, hc, hd, hi⟩, ne⟩ := hp v (by simp)
    generalize k v = ns at hi ne
    obtain ⟨m, t, us, ms, e1⟩ : ∃ m t us ms, xs.toList = Value.int m t :: us ∧ ns = m :: ms := by
      generalize xs.toList = l at hi
      cases hi with
      | nil => exact absurd rfl ne
      | cons m t r => exact ⟨m, t, _, _, rfl, rfl⟩
    refine ⟨.int m t :: fs, ⟨⟨a, o, xs, n, e, ho, hc, hd, ?_⟩, t1⟩, by simp [t2], fun f hf => ?_⟩
    · rw [← Array.getElem?_toList, e1.1]
      rfl
    · rcases List.mem_cons.mp hf with rfl | hf
      · exact ⟨m, t, rfl⟩
      · exact t3 f hf
theorem tup_sortable {a : Addr} {vs : List Value} {k : Value → List Int} (h0 : 0 < vs.length) (hp : ∀ v ∈ vs, TupV s.heap v (k v) ∧ k v ≠ []) (ha : ∀ o, s.heap.get? a = some o → o.cls ≠ .type "tuple") : SrtO.SortableO prog w A s a vs fun v u => ltL (k v) (k u) := by
  intro g kp
  have hq : ∀ v ∈ vs, TupV g v (k v) ∧ k v ≠ [] := fun v hv => ⟨(hp v hv).1.at fun b o e c => kp b o (fun z => by subst z; exact ha o e c) e, (hp v hv).2⟩
  obtain ⟨fs, t1, t2, t3⟩ := tup_firsts hq
  refine ⟨tuples' true, fun Q E done => ?_, tup_cmp fun v hv => (hq v hv).1⟩
  refine PySem.W.kat_kind (T := .type "int") t1 (by omega) (fun f hf => ?_) (by rfl) ?_
  · obtain ⟨x, t, rfl⟩ := t3 f hf
    exact PySem.W.Looks.now
  · rw [show (Value.type "int" != Value.type "tuple") = true by decide +kernel]
    exact done
end
theorem ints_vals : ∀ {ns : List Int} {us : List Value}, Vals (ns.map V.int) us → IntsAre us ns
  | [], _, .nil => .nil
  | n :: ns, _, .cons r t => by
    obtain ⟨u, rfl⟩ := r
    exact .cons n u (ints_vals t)
section
variable {X : Cx}
end
end Y

set_option Elab.async false
set_option linter.all false
set_option maxRecDepth 100000
namespace Y
open PySem PySem.Spec PyProof.Rows L2
def intTup : D → Option (List Int)
  | .tup ds => intsOf ds
  | _ => none
def tupsOf : List D → Option (List (List Int))
  | [] => some []
  | d :: ds => match intTup d, tupsOf ds with
    | some n, some ns => some (n :: ns)
    | _, _ => none
def sortOk (xs : List (List Int)) : Bool := decide (xs.length < 2) || xs.all fun x => !x.isEmpty
def intV : V → Int
  | .int i => i
  | _ => 0
def keyV (H : Hp) : V → List Int
  | .ref t => match H t with
    | some (.tup ws) => ws.map intV
    | _ => []
  | _ => []
theorem ints_back (ns : List Int) : (ns.map V.int).map intV = ns := by
  rw [List.map_map]
  induction ns with
  | nil => rfl
  | cons x xs ih => simp [intV] at ih ⊢; exact ih
section
variable {K : PySem.W.Frag} {X : Cx}
end
theorem tups_map : ∀ xs : List (List Int), tupsOf (xs.map fun x => D.tup (x.map D.int)) = some xs
  | [] => rfl
  | x :: xs => by
    simp only [List.map_cons, tupsOf, intTup, ints_map, tups_map xs]
end Y

set_option Elab.async false
set_option linter.all false
set_option maxRecDepth 100000
namespace Y
open PySem PySem.Spec PyProof.Rows L2
def whileN (t : BM) (body : SM) (vs : List Nat) : Nat → Y.Env → R (Fl × Y.Env)
  | 0, _ => .stk
  | n + 1, ρ => do
    let (k, ρ1) ← t ρ
    if k = true then do
      let (f, ρ2) ← body ρ1
      match f with
      | .bk => pure (.nx, ρ2)
      | .rt h => pure (.rt h, ρ2)
      | _ => whileN t body vs n (wipeE ρ2 vs)
    else pure (.nx, ρ1)
open Classical in
noncomputable def sWhile (t : BM) (body : SM) (vs : List Nat) : SM := fun ρ => if h : ∃ n, whileN t body vs n ρ ≠ .stk then whileN t body vs h.choose ρ else .stk
theorem whileN_up {t : BM} {body : SM} {vs : List Nat} : ∀ {n : Nat} {ρ : Y.Env}, whileN t body vs n ρ ≠ .stk → whileN t body vs (n + 1) ρ = whileN t body vs n ρ
  | 0, ρ, h => absurd rfl h
  | n + 1, ρ, h => by
    unfold whileN at h
    conv => lhs; unfold whileN
    conv => rhs; unfold whileN
    cases e : t ρ with
    | stk => rfl
    | er c ds => rfl
    | ok p =>
      obtain ⟨k, ρ1⟩ := p
      rw [e] at h
      simp only [R.bind_ok] at h ⊢
      cases k with
      | false => rfl
      | true =>
        simp only [if_true] at h ⊢
        cases e2 : body ρ1 with
        | stk => rfl
        | er c ds => rfl
        | ok q =>
          obtain ⟨f, ρ2⟩ := q
          rw [e2] at h
          simp only [R.bind_ok] at h ⊢
          cases f with
          | bk => rfl
          | rt _ => rfl
          | nx => exact whileN_up h
          | ct => exact whileN_up h
theorem whileN_le {t : BM} {body : SM} {vs : List Nat} {n : Nat} {ρ : Y.Env} (h : whileN t body vs n ρ ≠ .stk) : ∀ m, whileN t body vs (n + m) ρ = whileN t body vs n ρ
  | 0 => rfl
  | m + 1 => by
    have ih := whileN_le h m
    rw [← Nat.add_assoc, whileN_up (by rw [ih]; exact h), ih]
/-- a run of so many turns tells what the loop yields -/
theorem sWhile_of {t : BM} {body : SM} {vs : List Nat} {n : Nat} {ρ : Y.Env} {a : Fl × Y.Env} (h : whileN t body vs n ρ = .ok a) : sWhile t body vs ρ = .ok a := by
  have hx : ∃ n, whileN t body vs n ρ ≠ .stk := ⟨n, by rw [h]; intro z; cases z⟩
  unfold sWhile
  rw [dif_pos hx]
  have h2 := hx.choose_spec
  rcases Nat.le_total n hx.choose with l | l
  · obtain ⟨m, e⟩ := Nat.exists_eq_add_of_le l
    rw [e, whileN_le (by rw [h]; intro z; cases z), h]
  · obtain ⟨m, e⟩ := Nat.exists_eq_add_of_le l
    rw [← whileN_le h2 m, ← e, h]
section
variable {X : Cx} {P0 : Pr} {O W U : List Nat} {E : EK} {c : Expr} {pos : Pos} {m : SM}
theorem cs_while {t : BM} {vs : List Nat} {xs : List Stmt} (hp : PassesOwn (model X.prog X.w) X.A X.env X.xe) (hc : CT X P0 O W E c t) (hb : CSs X P0 O W U E xs m) : CS X P0 O W U E (.While c xs [] pos) (sWhile t m vs) := PS.imp (ps_while hp hc hb) fun D σ H ⟨ρ, S, h⟩ => by
  let Post : Fl × Y.Env → Prop := fun a => ∀ σ' H', Sim X.K P0 O W a.2 σ' H' → Tr O U σ H σ' H' → σ'.length = σ.length → Fin X.K P0 O H D σ' H' a.1
  have h : Res E O σ H (sWhile t m vs ρ) Post := h
  unfold sWhile at h
  by_cases hx : ∃ n, whileN t m vs n ρ ≠ .stk
  · rw [dif_pos hx] at h
    refine ⟨fun k σx Hx => ∃ ρx, Sim X.K P0 O W ρx σx Hx ∧ Tr O U σ H σx Hx ∧ σx.length = σ.length ∧ Res E O σx Hx (whileN t m vs k ρx) Post, ⟨_, ρ, S, .refl, rfl, h⟩, ?_⟩
    rintro k σx Hx ⟨ρx, Sx, tx, lx, qx⟩
    cases k with
    | zero => exact qx.elim
    | succ k =>
      unfold whileN at qx
      refine ⟨ρx, Sx, (qx.of_bind.down Sx.sub).mono fun ⟨b, ρ1⟩ q1 H1 S1 k1 => ?_⟩
      have t1 : Tr O U σx Hx σx H1 := Tr.of Sx.sub k1
      cases b with
      | false =>
        refine (if_neg Bool.false_ne_true).mpr ?_
        exact q1 σx H1 S1 (tx.trans t1) lx
      | true =>
        refine (if_pos rfl).mpr ⟨fun σ' H' => ∃ ρ', Sim X.K P0 O W ρ' σ' H' ∧ Tr O U σ H σ' H' ∧ σ'.length = σ.length ∧ Res E O σ' H' (whileN t m vs k ρ') Post, fun σ' H' n => ⟨k, Nat.lt_succ_self k, n⟩, ρ1, S1, ?_⟩
        have q1 : Res E O σx Hx (m ρ1 >>= fun p => match p.1 with | .bk => pure (.nx, p.2) | .rt h => pure (.rt h, p.2) | _ => whileN t m vs k (wipeE p.2 vs)) Post := q1
        refine (Res.keepT q1.of_bind t1).mono fun ⟨f, ρ2⟩ q2 σ3 H3 S3 t3 l3 => ?_
        have t4 : Tr O U σx Hx σ3 H3 := t1.trans t3
        have t5 : Tr O U σ H σ3 H3 := tx.trans t4
        have l5 : σ3.length = σ.length := l3.trans lx
        cases f with
        | nx => exact ⟨wipeE ρ2 vs, S3.wipe vs, t5, l5, Res.keepT q2 t4⟩
        | ct => exact ⟨wipeE ρ2 vs, S3.wipe vs, t5, l5, Res.keepT q2 t4⟩
        | bk => exact q2 σ3 H3 S3 t5 l5
        | rt hd =>
          intro v r
          exact q2 σ3 H3 S3 t5 l5 v (r.back fun b e => (tx.trans t1).some b e)
  · rw [dif_neg hx] at h
    exact h.elim
end
end Y

set_option Elab.async false
set_option linter.all false
set_option maxRecDepth 100000
namespace Y
open PySem PySem.Spec PyProof.Rows L2
section
variable {X : Cx} {P0 : Pr} {O W U : List Nat} {E : EK} {a e : Expr} {ma mb : EM} {pos : Pos}
def joinD : D → D → R D
  | .str a, .lst ds => match strsOf ds with
    | some ys => if (ys.map (·.length)).sum + ys.length * a.length ≤ 16777216 then .ok (.str (Txt.join a ys)) else .stk
    | none => .stk
  | .str a, .tup ds => match strsOf ds with
    | some ys => if (ys.map (·.length)).sum + ys.length * a.length ≤ 16777216 then .ok (.str (Txt.join a ys)) else .stk
    | none => .stk
  | _, _ => .stk
def cJoin (a b : EM) : EM := fun ρ => do
  let (h1, ρ1) ← a ρ
  let x ← h1.v.nox
  match x with
  | .str s => do
    let (h2, ρ2) ← b ρ1
    let y ← (h2.d ρ2).nox
    let z ← (joinD (.str s) y).nox
    pure (.fr z, ρ2)
  | _ => .stk
theorem ce_join {apos : Pos} (ha : CEx X P0 O W E a ma) (hb : CEx X P0 O W E e mb) (hs : starEach [e] X.env = [(false, eval e X.env)] := by rfl) (hbase : attributeBase a "join" X.env (eval a X.env) = eval a X.env := by rfl) (hline : (apos.endLine == pos.line) = true := by rfl) :
    CEx X P0 O W E (.Call (.Attribute a "join" apos) [e] [] pos) (cJoin ma mb) := PE.imp (pe_join ha hb hs hbase hline) fun σ H Q ⟨ρ, S, h⟩ => by
  refine ⟨ρ, S, h.of_bind.mono fun ⟨h1, ρ1⟩ q v H1 S1 k1 r1 => ?_⟩
  obtain ⟨d, e1, q⟩ := q.of_nox
  have rd := r1.v e1
  cases d <;> first | (exact q.elim) | skip
  rename_i s
  unfold Rep at rd
  subst rd
  have q : Res E W σ H (mb ρ1 >>= fun p => (p.1.d p.2).nox >>= fun y => (joinD (.str s) y).nox >>= fun z => R.ok (Hd.fr z, p.2)) _ := q
  refine ⟨⟨s, rfl⟩, ρ1, S1, (q.of_bind.keep k1).mono fun ⟨h2, ρ2⟩ q2 w H2 S2 k2 r2 => ?_⟩
  obtain ⟨y, e2, q2⟩ := q2.of_nox
  obtain ⟨z, e3, q2⟩ := q2.of_nox
  have rw2 := HdR.d S2 r2 e2
  have o := out_of (K := X.K) S2 (k1.trans k2) q2
  unfold joinD at e3
  cases y <;> first | (cases e3; done) | skip
  · rename_i ds
    have rt : Rep X.K H2 (.tup ds) _ w := rw2
    unfold Rep at rt
    obtain ⟨b, ws, rfl, t1, t2⟩ := rt
    simp only at e3
    cases es : strsOf ds with
    | none => rw [es] at e3; cases e3
    | some ys =>
      rw [es] at e3
      simp only at e3
      by_cases c : (ys.map (·.length)).sum + ys.length * s.length ≤ 16777216
      · rw [if_pos c] at e3
        cases e3
        rw [strs_rep es t2] at t1
        exact ⟨s, b, ys, rfl, rfl, .inr (SqT.of t1), c, o.flat (by unfold Rep; rfl) rfl⟩
      · rw [if_neg c] at e3; cases e3
  · rename_i ds
    obtain ⟨b, ws, rfl, t1, t2⟩ := rw2
    simp only at e3
    cases es : strsOf ds with
    | none => rw [es] at e3; cases e3
    | some ys =>
      rw [es] at e3
      simp only at e3
      by_cases c : (ys.map (·.length)).sum + ys.length * s.length ≤ 16777216
      · rw [if_pos c] at e3
        cases e3
        rw [strs_rep es t2] at t1
        exact ⟨s, b, ys, rfl, rfl, .inl (SqL.of t1), c, o.flat (by unfold Rep; rfl) rfl⟩
      · rw [if_neg c] at e3; cases e3
end
end Y

set_option Elab.async false
set_option linter.all false
set_option maxRecDepth 100000
namespace Y
open PySem PySem.Spec PyProof.Rows L2
section
variable {X : Cx} {P0 : Pr} {O W U : List Nat} {E : EK} {e : Expr} {ma : EM} {pos : Pos}
end
variable {ρ : Y.Env}
end Y

set_option Elab.async false
set_option linter.all false
set_option maxRecDepth 100000
namespace Y
open PySem PySem.Spec PyProof.Rows L2
section
variable {X : Cx}
end
end Y

set_option Elab.async false
set_option linter.all false
set_option maxRecDepth 100000
namespace Y
open PySem PySem.Spec PyProof.Rows L2
theorem extT_meets (l b : Addr) (xs ys : Array Value) (n k : Nat) (dd : Option Addr) (sl : Array (Option Value)) (c0 : ¬ (!xs.isEmpty && Builtin.List.listTooLong (xs.size + ys.size)) = true) (c1 : xs.size ≤ sizeLine) (c2 : xs.size + ys.size ≤ sizeLine + 1) :
    Meets (Builtin.«list.extend» ⟨[.ref l, .ref b], []⟩) (fun _ R s => s.heap.get? l = some { cls := .type "list", dict := none, data := .seq xs n, slots := #[] } ∧ s.heap.get? b = some { cls := .type "tuple", dict := dd, data := .seq ys k, slots := sl } ∧
      R (.ok (.ret Value.none)) { s with heap := s.heap.update l (Obj.mapSeq fun x => x ++ ys), toks := s.toks }) :=
  .of_wp fun prog w A R s ⟨hl, hb, done⟩ => by
    obtain ⟨hp, g, d, tk, os⟩ := s
    have g1 := AutoSeq1.idx_int
    have g2 := AutoSeq1.sub_tuple_tuple
    have g3 := AutoSeq1.sub_list_list
    have g4 := AutoSeq1.sub_tuple_list
    have g5 := AutoSeq1.sub_list_tuple
    have z : (xs ++ ys).size ≤ sizeLine + 1 := by
      rw [Array.size_append]
      exact c2
    wp_walk using (wpAny_updateSeq hl rfl (hz := c1) (_hz' := z)), wpAny_loadPart' hl, wpAny_loadPart' hb
    exact ⟨_, rfl, done⟩
def rExtendT (K : PySem.W.Frag) : V → List V → Hp → VK → Prop := fun x vs H Q => ∃ l b xs zs, x = .ref l ∧ vs = [.ref b] ∧ H l = some (.lst xs) ∧ SqT K H b zs ∧ xs.length + zs.length ≤ sizeLine ∧ Q .non (upd H l (.lst (xs ++ zs)))
theorem mt_extendT {X : Cx} : MtR X "list.extend" (rExtendT X.K) := by
  intro pins s σ H x vs v us Q I rx rv ⟨l, b, xs, zs, ex, ev, hH, hB, hz, q⟩
  subst ex ev
  cases rx
  obtain ⟨u, rfl, ru⟩ := rv.one
  cases ru
  obtain ⟨z, its, n, r, hl, e⟩ := I.lstM hH
  obtain ⟨its2, r2, ⟨o, e2, ec, k, ed⟩, _⟩ := I.tuple hB
  obtain ⟨cls, dd, data, sl⟩ := o
  simp only at ec ed
  subst ec ed
  have l2 := r2.length
  have sz : its.toArray.size + its2.toArray.size ≤ sizeLine := by simp; omega
  refine call_meets F.slot_list_extend ⟨_, e, rfl⟩ F.entry_list_extend (F.args_list_extend_2 _ _) (extT_meets l b its.toArray its2.toArray n k dd sl (by rw [notLongL sz]; simp) (by simp; omega) (by omega)) ⟨e, e2, ?_⟩
  exact ⟨.non, _, I.lset (its' := its ++ its2) hH e (by simp) (r.append r2) (by rw [List.length_append]; omega), rfl, q⟩
def sExt (i : Nat) (m : EM) : SM := fun ρ => do
  let _ ← (lstAt i ρ).nox
  let (h, ρ1) ← m ρ
  let d ← (h.d ρ1).nox
  let ds ← (lstAt i ρ1).nox
  match d with
  | .lst es => if szOk (ds.length + es.length) = true then pure (.nx, ρ1.set i (some (.lst (ds ++ es)))) else .stk
  | .tup es => if szOk (ds.length + es.length) = true then pure (.nx, ρ1.set i (some (.lst (ds ++ es)))) else .stk
  | _ => .stk
section
variable {K : PySem.W.Frag} {X : Cx} {P0 : Pr} {O W U : List Nat} {E : EK} {e : Expr} {ma : EM} {pos : Pos}
def rExtA (K : PySem.W.Frag) : V → List V → Hp → VK → Prop := fun x vs H Q => rExtend x vs H Q ∨ rExtendT K x vs H Q
theorem mt_extA : MtR X "list.extend" (rExtA X.K) := fun pins s σ H x vs v us Q I rx rv h => h.elim (mt_extend pins s σ H x vs v us Q I rx rv) (mt_extendT pins s σ H x vs v us Q I rx rv)
theorem tM_ext {i : Nat} (hi : i ∈ O) (D : Ends) (σ : St) (H : Hp) (h : tSt K P0 O W U E (sExt i ma) D σ H) : tDrop (tBM K "list" (rExtA K) (tVar i) (tCons (tM K P0 O W E ma) tNil)) D σ H := by
  obtain ⟨ρ, S, h⟩ := h
  obtain ⟨ds0, e0, h⟩ := h.of_nox
  obtain ⟨l, vs0, h1, h2, _⟩ := S.lst hi (lstAt_ok e0)
  refine ⟨.ref l, h1, .inl ⟨rfl, _, SqL.of h2⟩, ρ, S, (h.of_bind.down S.sub).mono fun ⟨hd, ρ1⟩ q v H1 S1 k1 r1 => ?_⟩
  obtain ⟨d, e1, q⟩ := q.of_nox
  obtain ⟨ds, e2, q⟩ := q.of_nox
  obtain ⟨l', vs, h1', h3, h4⟩ := S1.lst hi (lstAt_ok e2)
  rw [h1] at h1'
  cases h1'
  have rd := HdR.d S1 r1 e1
  cases d <;> first | (exact q.elim) | skip
  · rename_i es _
    have rd : Rep K H1 (.tup es) (FA P0 O σ) v := rd
    unfold Rep at rd
    obtain ⟨b, ws, rfl, h5, h6⟩ := rd
    have q : Res E O σ H (if szOk (ds.length + es.length) = true then R.ok (Fl.nx, ρ1.set i (some (.lst (ds ++ es)))) else .stk) _ := q
    by_cases c : szOk (ds.length + es.length) = true
    · rw [if_pos c] at q
      have c := of_decide_eq_true c
      exact .inr ⟨l, b, vs, ws, rfl, rfl, h3, SqT.of h5, by rw [h4.length, h6.length]; omega, q σ _ (S1.lstW hi h1 h3 (h4.append h6)) (Tr.ownW S.sub k1 hi h1) rfl⟩
    · rw [if_neg c] at q
      exact q.elim
  · rename_i es _
    obtain ⟨b, ws, rfl, h5, h6⟩ := rd
    have q : Res E O σ H (if szOk (ds.length + es.length) = true then R.ok (Fl.nx, ρ1.set i (some (.lst (ds ++ es)))) else .stk) _ := q
    by_cases c : szOk (ds.length + es.length) = true
    · rw [if_pos c] at q
      have c := of_decide_eq_true c
      exact .inl ⟨l, b, vs, ws, rfl, rfl, h3, h5, by rw [h4.length, h6.length]; omega, q σ _ (S1.lstW hi h1 h3 (h4.append h6)) (Tr.ownW S.sub k1 hi h1) rfl⟩
    · rw [if_neg c] at q
      exact q.elim
theorem cs_ext {i : Nat} {x : Str} {p ap cp : Pos} (h : CEx X P0 O W E e ma) (hi : i ∈ O := by decide) (hx : X.N[i]? = some x := by rfl) (hv : Vis X.env.scope x := by first | exact Or.inl rfl | exact Or.inr (Or.inl rfl) | exact Or.inr (Or.inr rfl)) (hd : (x == ("__debug__" : Str)) = false := by decide) (hcd : (x == ("__classdict__" : Str)) = false := by decide)
    (he : starEach [e] X.env = (false, eval e X.env) :: starEach [] X.env := by rfl) (hpl : (backTo cp (starEach [] X.env)).any (·.1) = false := by rfl) (hbase : attributeBase (.Name x p) "extend" X.env (eval (.Name x p) X.env) = eval (.Name x p) X.env := by rfl) (hline : (ap.endLine == cp.line) = true := by rfl)
    (hfew : Few X cp [e] := by rfl) (hsw : swapsWith (.Call (.Attribute (.Name x p) "extend" ap) [e] [] cp) none pos.line X.env = pure false := by rfl) :
    CS X P0 O W U E (.Expr (.Call (.Attribute (.Name x p) "extend" ap) [e] [] cp) pos) (sExt i ma) :=
  PS.imp (ps_expr (pe_bm PySem.F.plainAttrs_list PySem.F.slot_list_extend PySem.F.type_list_extend mt_extA (pe_var (i := i) hx hv hd hcd) (pa_cons h pa_nil he) hbase hfew hline he hpl) hsw) (tM_ext hi)
end
variable {ρ : Y.Env}
@[simp] theorem e_ext {i : Nat} {m : EM} : sExt i m ρ = ((lstAt i ρ).nox >>= fun _ => m ρ >>= fun p => (p.1.d p.2).nox >>= fun d => (lstAt i p.2).nox >>= fun ds => match d with | .lst es => (if szOk (ds.length + es.length) = true then R.ok (.nx, p.2.set i (some (.lst (ds ++ es)))) else .stk) | .tup es => (if szOk (ds.length + es.length) = true then R.ok (.nx, p.2.set i (some (.lst (ds ++ es)))) else .stk) | _ => .stk) := by
  unfold sExt; congr
end Y

set_option Elab.async false
set_option linter.all false
set_option maxRecDepth 100000
namespace Y
open PySem PySem.Spec PyProof.Rows L2
variable {ρ : Y.Env}
@[simp] theorem e_join {a b : EM} : cJoin a b ρ = (a ρ >>= fun p => p.1.v.nox >>= fun x => match x with | .str s => (b p.2 >>= fun q => (q.1.d q.2).nox >>= fun y => (joinD (.str s) y).nox >>= fun z => R.ok (.fr z, q.2)) | _ => .stk) := by
  unfold cJoin; congr
end Y

set_option Elab.async false
set_option linter.all false
set_option maxRecDepth 100000
namespace Y
open PySem PySem.Spec PyProof.Rows L2
inductive Kd where
  | l (a : Addr) | t (a : Addr) | s (z : Str)
def strV (z : Str) : List V := z.cps.toList.map fun c => V.str ⟨#[c]⟩
def Kd.has (K : PySem.W.Frag) (H : Hp) : Kd → List V → Prop
  | .l a, xs => SqL K H a xs
  | .t a, xs => SqT K H a xs
  | .s z, xs => xs = strV z
def Kd.val : Kd → V
  | .l a => .ref a
  | .t a => .ref a
  | .s z => .str z
def Kd.lo : Kd → Nat → Prop
  | .l a, n => a < n
  | .t a, n => a < n
  | .s _, _ => True
/-- the iterator it over it, i items told -/
def Kd.at (it : Addr) (tk : Tok) : Kd → Nat → Heap → Prop
  | .l a, i, h => h.IsListIter it a i
  | .t a, i, h => h.IsTupleIter it a i
  | .s z, i, h => h.IsStrIter it (strIterType z) z tk i
theorem Kd.at_ob {k : Kd} {it : Addr} {tk : Tok} {i : Nat} {h : Heap} (x : k.at it tk i h) : ∃ o, h.get? it = some o ∧ ∀ v, o.data ≠ .cell v := by
  cases k with
  | l a => obtain ⟨o, e, _, d⟩ := x; exact ⟨o, e, fun v q => by rw [d] at q; cases q⟩
  | t a => obtain ⟨o, e, _, d⟩ := x; exact ⟨o, e, fun v q => by rw [d] at q; cases q⟩
  | s z => obtain ⟨o, e, _, d⟩ := x; exact ⟨o, e, fun v q => by rw [d] at q; cases q⟩
theorem Kd.at_k {k : Kd} {it : Addr} {tk : Tok} {i : Nat} {h h' : Heap} (x : k.at it tk i h) (q : ∀ o, h.get? it = some o → h'.get? it = some o) : k.at it tk i h' := by
  cases k with
  | l a => obtain ⟨o, e, r⟩ := x; exact ⟨o, q o e, r⟩
  | t a => obtain ⟨o, e, r⟩ := x; exact ⟨o, q o e, r⟩
  | s z => obtain ⟨o, e, r⟩ := x; exact ⟨o, q o e, r⟩
theorem vals_at : ∀ {xs : List V} {us : List Value} {j : Nat} {u : Value}, Vals xs us → us[j]? = some u → ∃ x, xs[j]? = some x ∧ RelV x u
  | _, _, _, _, .nil, e => by simp at e
  | x :: xs, _, 0, _, .cons r _, e => by simp at e; subst e; exact ⟨x, rfl, r⟩
  | x :: xs, _, j + 1, _, .cons _ t, e => by simpa using vals_at (j := j) t (by simpa using e)
section
variable {X : Cx} {pins : List (Addr × Obj)} {σ : St} {H : Hp} {s : Shared}
theorem Kd.inj {k : Kd} {xs ys : List V} (I : Inv X pins σ H s) (h : k.has X.K H xs) (h2 : k.has X.K H ys) : xs = ys := by
  cases k with
  | l a => exact I.list_inj h h2
  | t a => exact I.tuple_inj h h2
  | s z => exact Eq.trans h (Eq.symm h2)
/-- what an iterator over it draws -/
structure Kd.Drw (X : Cx) (A : Around) (k : Kd) (it : Addr) (tk : Tok) (xs : List V) (fp : List Addr) (P : Nat → Value → Prop) (S : Nat → Heap → Prop) : Prop where
  dr : Draws X.prog X.w A it fp xs.length P S
  mem : it ∈ fp
  lo : ∀ b ∈ fp, b = it ∨ ∃ a, b = a ∧ (k = .l a ∨ k = .t a)
  back : ∀ j h, S j h → k.at it tk j h
  item : ∀ j v, P j v → ∃ x, xs[j]? = some x ∧ RelV x v
theorem Kd.draw {A : Around} {k : Kd} {it : Addr} {tk : Tok} {i : Nat} {xs : List V} (hh : A.handled = none) (I : Inv X pins σ H s) (h : k.has X.K H xs) (lo : ∀ a, k = .l a ∨ k = .t a → a ≠ it) (st : k.at it tk i s.heap) : ∃ fp P S, Kd.Drw X A k it tk xs fp P S ∧ S i s.heap := by
  cases k with
  | l a =>
    obtain ⟨its, rv, p, _⟩ := I.list h
    have hl : its.toArray.size = xs.length := by simp [rv.length]
    have D := Draws.list (prog := X.prog) (w := X.w) hh it a (lo a (.inl rfl)) its.toArray
    rw [hl] at D
    exact ⟨_, _, _, ⟨D, by simp, fun b hb => by simpa [eq_comm] using hb, fun j h z => z.1, fun j v z => by
      rw [List.getElem?_toArray] at z
      exact vals_at rv z⟩, st, p.isList⟩
  | t a =>
    obtain ⟨its, rv, p, _⟩ := I.tuple h
    have hl : its.toArray.size = xs.length := by simp [rv.length]
    have D := Draws.tuple (prog := X.prog) (w := X.w) hh it a (lo a (.inr rfl)) its.toArray
    rw [hl] at D
    exact ⟨_, _, _, ⟨D, by simp, fun b hb => by simpa [eq_comm] using hb, fun j h z => z.1, fun j v z => by
      rw [List.getElem?_toArray] at z
      exact vals_at rv z⟩, st, p⟩
  | s z =>
    have h : xs = strV z := h
    have hl : z.cps.size = xs.length := by rw [h]; simp [strV]
    have D := Draws.text (prog := X.prog) (w := X.w) hh it z tk
    rw [hl] at D
    exact ⟨_, _, _, ⟨D, by simp, fun b hb => .inl (by simpa using hb), fun j h z => z, fun j v ⟨c, u, e1, e2⟩ => by
      refine ⟨.str ⟨#[c]⟩, ?_, u, e2⟩
      rw [h, strV, List.getElem?_map, Array.getElem?_toList, e1]
      rfl⟩, st⟩
end
theorem ad {a b : Nat} (h : ¬ a = b) : @Ne Addr a b := h
theorem Kd.lo_ne {k : Kd} {n : Nat} (h : k.lo n) (a : Nat) (e : k = .l a ∨ k = .t a) : a < n := by
  rcases e with rfl | rfl <;> exact h
section
variable {X : Cx} {pins : List (Addr × Obj)} {σ : St} {H : Hp} {s : Shared}
end
def kdOf : D → V → Option Kd
  | .lst _, .ref a => some (.l a)
  | .arg _, .ref a => some (.l a)
  | .tup _, .ref a => some (.t a)
  | .str z, _ => some (.s z)
  | .ftu _, .ref a => some (.t a)
  | _, _ => none
section
variable {K : PySem.W.Frag} {P0 : Pr} {O W : List Nat} {ρ ρ' : Env} {σ σ' : St} {H H' Hs : Hp} {h h2 : Hd} {d d2 : D} {v : V}
/-- a datum that is walked: its kind and the items' values -/
theorem RepW.kd {ds : List D} {P : Pr} (r : RepW K H d P v) (e : itD d = .ok ds) : ∃ k vs, v = Kd.val k ∧ k.has K H vs ∧ Reps K H ds P vs ∧ kdOf d v = some k := by
  cases d <;> simp only [itD, R.ok.injEq, reduceCtorEq] at e
  · subst e
    rename_i z
    obtain rfl := r.str
    refine ⟨.s z, strV z, rfl, rfl, ?_, rfl⟩
    unfold strV
    generalize z.cps.toList = l
    induction l with
    | nil => exact Reps.nil
    | cons c l ih => exact Reps.cons (by unfold Rep; rfl) ih
  · subst e
    obtain ⟨a, vs, rfl, t1, t2⟩ := r.tup
    exact ⟨.t a, vs, rfl, SqT.of t1, t2, rfl⟩
  · subst e
    obtain ⟨a, vs, rfl, t1, t2⟩ := r.lst
    exact ⟨.l a, vs, rfl, SqL.of t1, t2, rfl⟩
  · subst e
    obtain ⟨a, rfl, t1⟩ := r.arg
    exact ⟨.l a, _, rfl, t1, reps_ints _, rfl⟩
  · subst e
    obtain ⟨a, vs, o, rfl, t1, _, t2⟩ := r.ftu
    exact ⟨.t a, vs, rfl, SqT.fz t1, t2, rfl⟩
/-- .. from what holds of it -/
theorem Hold.kd {ds : List D} {k : Kd} (S : Sim K P0 O W ρ σ H) (o : Hold K O h d v P0 ρ σ H) (e : itD d = .ok ds) (ek : kdOf d v = some k) : ∃ vs, k.has K H vs ∧ Reps K H ds (FA P0 O σ) vs := by
  obtain ⟨k', vs, _, h1, h2, h3⟩ := (o.rep S).kd e
  rw [ek] at h3; cases h3
  exact ⟨vs, h1, h2⟩
end
section
variable {X : Cx} {P0 : Pr} {O W : List Nat} {E : EK} {a b c e tg : Expr} {es : List Expr} {ma mb mc : EM} {ms : AM} {pos : Pos}
end
section
variable {ρ : Y.Env}
end
def IteG (K : PySem.W.Frag) (k : Kd) : It :=
  ⟨fun i H => ∃ xs x, k.has K H xs ∧ xs[i]? = some x, fun i H v H' => ∃ T x, v = .ref T ∧ H T = none ∧ H' = upd H T (.tup [.int (i : Nat), x]) ∧ ∀ xs, k.has K H xs → xs[i]? = some x, fun i H => ∃ xs, k.has K H xs ∧ i = xs.length⟩
abbrev fp2 (n : Nat) : List Addr := [n + 1, n]
def tnE (n : Nat) (t : Tok) (k : Kd) (i : Nat) (h : Heap) : Prop := (∃ old, IsEnum h (n + 1) n ((i : Nat) : Int) old) ∧ k.at n t i h
theorem turn_enumG {P : Program} {w : World} {K : PySem.W.Frag} {elts : List Expr} {kk : Nat} {tpos : Pos} {k : Kd} {n : Nat} {t : Tok} (c : k.lo n) :
    Turn P w K (.Tuple elts kk tpos) (IteG K k) (fp2 n) (n + 1) (tnE n t k) where
  mem := by simp
  obj := fun i h ⟨⟨old, he⟩, q1⟩ b hb => by
    have hb : b = n + 1 ∨ b = n := by simpa using hb
    rcases hb with rfl | rfl
    · exact ⟨_, he, fun v q => nomatch q⟩
    · exact Kd.at_ob q1
  keep := fun i h h' ⟨⟨old, he⟩, q1⟩ k => ⟨⟨old, k _ (by simp) _ he⟩, Kd.at_k q1 (k _ (by simp))⟩
  item := by
    intro X hP hw hK hc i pins s σ H E I hf ⟨⟨old, he⟩, q1⟩ ⟨xs, x, g1, ex⟩
    subst hP hw hK
    have hh : X.A.in1.handled = none := by simp [I.ok.hd hc]
    obtain ⟨fp1, P1, S1, d1, s1⟩ := Kd.draw (A := X.A.in1) hh I g1 (fun a e => ad (by have := Kd.lo_ne c a e; omega)) q1
    have hel : n + 1 < s.heap.objs.size := Heap.lt_size he
    have hef : n + 1 ∉ fp1 := fun z => by
      rcases d1.lo _ z with e | ⟨a, e, e2⟩
      · have e : n + 1 = n := e
        omega
      · have := Kd.lo_ne c a e2
        have e : n + 1 = a := e
        omega
    refine wpAny_pyNext_enum_itemD d1.dr he s1 (List.getElem?_eq_some_iff.mp ex).1 (ad (by omega)) hef fun u h' tk p1 ho s1' hT hsz hk => ?_
    obtain ⟨x', ex', r1⟩ := d1.item _ _ p1
    rw [ex] at ex'; cases ex'
    refine ⟨_, rfl, wpAny_letOwnedTupleGo_enum (s := { s with heap := h', toks := tk + 1 }) ho fun h2 he2 sb => ?_⟩
    have hT2 : h2.get? s.heap.objs.size = some { cls := .type "tuple", data := .seq #[.int i tk, u] } := (sb.2 _ (ad (by omega))).trans hT
    have new : ObjOk X.prog X.w (upd H s.heap.objs.size (.tup [.int (i : Nat), x])) h2 s.heap.objs.size (.tup [.int (i : Nat), x]) := ⟨by show 2 ≤ sizeLine; decide, [.int i tk, u], .cons ⟨_, rfl⟩ (.cons r1 .nil), ⟨_, hT2, rfl, _, rfl⟩⟩
    have I1 : Inv X pins σ (upd H s.heap.objs.size (.tup [.int (i : Nat), x])) { s with heap := h2, toks := tk + 1 } :=
      I.turnedNew (t' := tk + 1) (ch := fp2 n) (fun b o hb q => (sb.2 b fun e => hb (by simp [e])).trans (hk b o (fun e => hb (by simp [e])) (fun e => hb (by simp [e])) q)) hf (Nat.le_refl _) new
    refine ⟨.ref s.heap.objs.size, _, I1, rfl, ⟨_, x, rfl, I.hok.fresh (Nat.le_refl _), rfl, fun l hl => by rw [Kd.inj I hl g1]; exact ex⟩, ⟨⟨u, ?_⟩, ?_⟩, fun b hb => ?_⟩
    · have e1 : ((i + 1 : Nat) : Int) = (i : Int) + 1 := by omega
      rw [e1]; exact he2
    · exact Kd.at_k (d1.back _ _ s1') fun o q => (sb.2 _ (ad (by omega))).trans q
    · have hb' : b = n + 1 ∨ b = n := by simpa using hb
      rw [upd_ne (by rcases hb' with e | e <;> (rw [e]; exact ad (by omega)))]
      exact (hf b hb).1
  done := by
    intro X hP hw hK hc i pins s σ H E I hf ⟨⟨old, he⟩, q1⟩ ⟨xs, g1, ei⟩
    subst hP hw hK
    have hh : X.A.in1.handled = none := by simp [I.ok.hd hc]
    obtain ⟨fp1, P1, S1, d1, s1⟩ := Kd.draw (A := X.A.in1) hh I g1 (fun a e => ad (by have := Kd.lo_ne c a e; omega)) q1
    subst ei
    exact wpAny_pyNext_enum_endD d1.dr he s1 fun h' eb => ⟨rfl, I.turnedL (t' := s.toks) (ch := fp2 n) (fun b o hb q => eb b o (fun e => hb (by simp [e])) q) hf⟩
  self := fun A i s Q E ⟨⟨_, he⟩, _⟩ h => wpAny_pyIter_enum he h
open AutoSeq1 (wpAny_loadPart') in
set_option maxHeartbeats 1000000 in
theorem enum_newT (b : Addr) (ys : Array Value) (m : Nat) (dd : Option Addr) (sl : Array (Option Value)) : Meets (Builtin.«enumerate.__new__» ⟨[.type "enumerate", .ref b], []⟩) (fun _ R s => s.heap.get? b = some { cls := .type "tuple", dict := dd, data := .seq ys m, slots := sl } ∧
    R (.ok (.ret (.ref (s.heap.push { cls := .type "tuple_iterator", data := .fields #[.ref b, .int 0 0] }).objs.size))) { s with heap := (s.heap.push { cls := .type "tuple_iterator", data := .fields #[.ref b, .int 0 0] }).push { cls := .type "enumerate", data := .fields #[.none, .bool false, .ref s.heap.objs.size, rawInt 0, .none, .none] } }) :=
  .of_wp fun prog w A R s ⟨hb, q⟩ => by
    obtain ⟨hp, g, d, tk, os⟩ := s
    have z1 := sub_enumerate
    have hT : Heap.IsTuple (Shared.heap ⟨hp, g, d, tk, os⟩) b ys := ⟨_, hb, rfl, m, rfl⟩
    wp_walk using wpAny_loadPart' hb
    refine wpAny_stack_any fun st => wpAny_pure ?_
    split
    · rename_i c _ _ _ _ _
      cases (c == Value.type "enumerate") <;> (wp_walk using wpAny_loadPart' hb, wpAny_pyIter_tuple hT; exact ⟨_, rfl, q⟩)
    · wp_walk using wpAny_loadPart' hb, wpAny_pyIter_tuple hT
      exact ⟨_, rfl, q⟩
theorem call_enumT {prog : Program} {w : World} {A : Around} {E : Value → Shared → Prop} {s : Shared} {b : Addr} {ys : Array Value} {Q : Value → Shared → Prop} (hT : s.heap.IsTuple b ys)
    (q : ∀ h', IsEnum h' (s.heap.objs.size + 1) s.heap.objs.size 0 .none → h'.IsTupleIter s.heap.objs.size b 0 → (∀ c o, s.heap.get? c = some o → h'.get? c = some o) → Q (.ref (s.heap.objs.size + 1)) { s with heap := h' }) :
    wpAny (model prog w) A (call (.type "enumerate") [.ref b]) Q E s := by
  obtain ⟨⟨cls, dd, data, sl⟩, hb, ec, m, ed⟩ := hT
  simp only at ec ed
  subst ec ed
  refine callType_new F.called_enumerate (by decide) (F.typeCall_enumerate_1 _) (F.newCall_enumerate_1 _) (fun obj => F.args_object_init_2 obj _) F.entry_enumerate_new (enum_newT b ys m dd sl) ⟨hb, ?_⟩
  have hz : (s.heap.push { cls := .type "tuple_iterator", data := .fields #[.ref b, .int 0 0] }).objs.size = s.heap.objs.size + 1 := Heap.size_push ..
  have he : IsEnum ((s.heap.push { cls := .type "tuple_iterator", data := .fields #[.ref b, .int 0 0] }).push { cls := .type "enumerate", data := .fields #[.none, .bool false, .ref s.heap.objs.size, rawInt 0, .none, .none] }) (s.heap.objs.size + 1) s.heap.objs.size 0 .none := by
    rw [← hz]
    exact Heap.get?_push_size _ rfl
  show _ ∧ _
  rw [hz]
  exact ⟨⟨_, he, rfl⟩, q _ he ⟨_, Heap.get?_push_of_some _ (Heap.get?_push_size _ rfl), rfl, rfl⟩ fun c o x => Heap.get?_push_of_some _ (Heap.get?_push_of_some _ x)⟩
section
variable {X : Cx} {P0 : Pr} {O W : List Nat} {E : EK} {a b c e tg : Expr} {es : List Expr} {ma mb mc : EM} {ms : AM} {pos : Pos}
def iEnumG (K : PySem.W.Frag) (ta : TA) : TI := fun σ H R => ta σ H fun vs H1 => ∃ k xs, vs = [Kd.val k] ∧ k.has K H1 xs ∧ R (IteG K k) H1
theorem pi_enumG {ta : TA} {p tpos : Pos} {elts : List Expr} {kk : Nat} (hg : Gl X "enumerate") (hm : X.mg "enumerate" = none) (ha : PA X [e] ta) (hs : starEach [e] X.env = [(false, eval e X.env)] := by rfl) :
    PI X (.Tuple elts kk tpos) (.Call (.Name "enumerate" p) [e] [] pos) (iEnumG X.K ta) := ⟨fun pins s σ H R I h =>
  Call_ (ld_blt I hg hm boot_enumerate (PyProof.Rows.callWith_type1 (thn (ha.run pos pins s σ H _ I h) fun us s1 ⟨vs, H1, I1, r1, q1⟩ => by
    obtain ⟨k, xs, ex, h1, q⟩ := q1
    subst ex
    obtain ⟨u, rfl, r2⟩ := vals1 r1
    have fin : ∀ (tk : Tok) (h' : Heap), k.lo s1.heap.objs.size → IsEnum h' (s1.heap.objs.size + 1) s1.heap.objs.size 0 .none → k.at s1.heap.objs.size tk 0 h' → (∀ c o, s1.heap.get? c = some o → h'.get? c = some o) → PIE X pins σ (.Tuple elts kk tpos) R (.ref (s1.heap.objs.size + 1)) { s1 with heap := h' } := fun tk h' lo he hit hk =>
      ⟨s1.heap.objs.size + 1, fp2 s1.heap.objs.size, tnE s1.heap.objs.size tk k, _, H1, rfl, I1.kept (t' := s1.toks) hk, turn_enumG lo, ⟨⟨.none, he⟩, hit⟩, fun b hb => by
        have hb' : b = s1.heap.objs.size + 1 ∨ b = s1.heap.objs.size := by simpa using hb
        have le : s1.heap.objs.size ≤ b := by rcases hb' with e | e <;> (rw [e]; first | exact Nat.le_refl _ | exact Nat.le_add_right _ _)
        exact I1.fpOk le (I1.hok.fresh le), q⟩
    cases k with
    | l a =>
      obtain ⟨its, rv, p, _⟩ := I1.list h1
      cases r2
      exact call_enumerate_list p.isList fun h' he hit hsz hk => wpAny_pyIter_enum he (fin 0 h' p.lt he hit hk)
    | t a =>
      obtain ⟨its, rv, p, _⟩ := I1.tuple h1
      cases r2
      have p : s1.heap.IsTuple a its.toArray := p
      obtain ⟨o, e, _⟩ := id p
      exact call_enumT p fun h' he hit hk => wpAny_pyIter_enum he (fin 0 h' (Heap.lt_size e) he hit hk)
    | s z =>
      obtain ⟨tk, rfl⟩ := r2
      exact call_enumerate_str fun h' he hit hsz hk => wpAny_pyIter_enum he (fin tk h' trivial he hit hk)) hs rfl))⟩
def numD (ds : List D) : List D := pairsD ((List.range ds.length).map fun i => D.int (i : Nat)) ds
section
variable {K : PySem.W.Frag} {ρ ρ' : Env} {σ σ' : St} {H H' Hs : Hp} {h h2 : Hd} {d d2 : D} {v : V}
theorem src_enumG {k : Kd} {ds : List D} (hd : itD d = .ok ds) (e1 : kdOf d v = some k) : Src K O W (numD ds) h.ws (IteG K k) (Hold K O h d v) where
  go := fun P0 i ρ σ H S ok hi => by
    obtain ⟨vs, a1, a2⟩ := ok.kd S hd e1
    unfold numD at hi
    rw [pairsD_len, ← a2.length] at hi
    have hi : i < vs.length := by simpa using hi
    exact ⟨vs, vs[i], a1, List.getElem?_eq_getElem hi⟩
  stop := fun P0 ρ σ H S ok => by
    obtain ⟨vs, a1, a2⟩ := ok.kd S hd e1
    exact ⟨vs, a1, by unfold numD; rw [pairsD_len, ← a2.length]; simp⟩
  yld := fun P0 i ρ σ H x H' d S ok hq y => by
    obtain ⟨vs, a1, a2⟩ := ok.kd S hd e1
    have hi := (List.getElem?_eq_some_iff.mp hq).1
    unfold numD at hi hq
    rw [pairsD_len] at hi
    have hi : i < ds.length := by simpa using hi
    obtain ⟨x1, y1, q1, q2, rfl⟩ := pairsD_get hq
    obtain ⟨v2, q4, r2⟩ := a2.get q2
    obtain ⟨T, u, rfl, hT, rfl, e3⟩ := y
    have e3 := e3 _ a1
    rw [q4] at e3; cases e3
    rw [List.getElem?_map, List.getElem?_range hi] at q1
    cases q1
    exact pair_rep S.dom hT (by unfold Rep; rfl) r2
  keep := fun P0 ρ σ H ρ' σ' H' S k w hw ok => ok.keep S k w hw
  mem := fun P0 ρ σ H ok => ok.mem
  grow := fun P0 P1 ρ σ H H' S w k ok => ok.grow S w k
end
def cEnumG (m : AM) : IM := fun ρ => do
  let (hs, ρ1) ← m ρ
  match hs with
  | [h] => do
    let x ← (h.d ρ1).nox
    let ds ← (itD x).nox
    if szOk (numD ds).length = true then pure ((numD ds, h.ws), ρ1) else .stk
  | _ => .stk
theorem ci_enumG {p tpos : Pos} {elts : List Expr} {kk : Nat} (hm : X.mg "enumerate" = none) (ha : CA X P0 O W E [a] ms) (hg : Gl X "enumerate" := by rfl) (hs : starEach [a] X.env = [(false, eval a X.env)] := by rfl) :
    CI X P0 O W E (.Tuple elts kk tpos) (.Call (.Name "enumerate" p) [a] [] pos) (cEnumG ms) := PI.imp (pi_enumG hg hm ha hs) fun σ H _ ⟨ρ, S, h⟩ => by
  refine ⟨ρ, S, h.of_bind.mono fun ⟨hs, ρ1⟩ q vs H1 S1 k1 r1 => ?_⟩
  match hs, r1, q with
  | [h], r1, q =>
    obtain ⟨v, ws, rfl, t1, t2⟩ := r1
    have t2 : ws = [] := t2
    subst t2
    obtain ⟨x, ex, q1⟩ := Res.of_nox (show Res E W σ H ((h.d ρ1).nox >>= _) _ from q)
    obtain ⟨ds, e1, q3⟩ := q1.of_nox
    clear q q1
    by_cases c : szOk (numD ds).length = true
    · rw [if_pos c] at q3
      obtain ⟨c1, vs1, rfl, f1, _, g1⟩ := (t1.d S1 ex).kd e1
      exact ⟨c1, vs1, rfl, f1, q3 _ H1 _ S1 k1 (src_enumG e1 g1) (t1.hold ex) (of_decide_eq_true c)⟩
    · rw [if_neg c] at q3
      exact q3.elim
  | [], _, q => exact q.elim
  | _ :: _ :: _, _, q => exact q.elim
end
section
variable {ρ : Y.Env}
@[simp] theorem e_enumG {m : AM} : cEnumG m ρ = (m ρ >>= fun p => match p.1 with | [h] => ((h.d p.2).nox >>= fun x => (itD x).nox >>= fun ds => if szOk (numD ds).length = true then R.ok ((numD ds, h.ws), p.2) else .stk) | _ => .stk) := by
  unfold cEnumG; congr
@[simp] theorem numD_len {ds : List D} : (numD ds).length = ds.length := by unfold numD; rw [pairsD_len]; simp
end
end Y

set_option Elab.async false
set_option linter.all false
set_option maxRecDepth 100000
namespace Y
open PySem PySem.Spec PyProof.Rows L2
abbrev veB : List Value := [.type "ValueError", .type "Exception", .type "BaseException", .type "object"]
structure ErrT (K : PySem.W.Frag) (mg : Str → Option Value) (x : Str) : Prop where
  ex : ∃ C, mg x = some (.ref C) ∧ PySem.W.excIn K C veB "ValueError.__new__" = true ∧ PySem.W.keepIn K (.ref C) = true ∧ PySem.W.subIn K (.ref C) (.type "BaseException") = some true ∧ PySem.W.typeIn K (.ref C) = some (.type "type")
def sRaise (c : Str) : SM := fun _ => .er c []
section
variable {K : PySem.W.Frag} {X : Cx} {P0 : Pr} {O W U : List Nat} {E : EK} {XE : XK} {e : Expr} {ma : EM} {pos : Pos}
theorem cs_raise {x m : Str} {j : Nat} {p p2 q pos : Pos} (T : ErrT X.K X.mg x) (hc : X.calm = true) (tk : L2N.Takes X fun cls d _ H => XE cls d H) (hg : Gl X x := by rfl) (hdb : (x == ("__debug__" : Str)) = false := by decide) :
    CS X P0 O W U (exE X.mg XE) (.Raise (some (.Call (.Name x p) [.Constant (.str m) j p2] [] q)) none pos) (sRaise x) := by
  obtain ⟨C, gC, q, kC, b, t⟩ := T.ex
  refine PS.imp (L2N.ps_raise hc tk (L2N.pmk_own PySem.F.excBase_ValueError q gC kC (raises_own b t) hg hdb)) fun D σ H ⟨ρ, S, h⟩ => ?_
  obtain ⟨_, C', e1, e2⟩ := h H (Keep.refl)
  rw [gC] at e1; cases e1
  exact e2
end
@[simp] theorem e_raise {c : Str} {ρ : Y.Env} : sRaise c ρ = .er c [] := id rfl
end Y

set_option Elab.async false
set_option linter.all false
set_option maxRecDepth 100000
namespace Y
open PySem PySem.Spec PyProof.Rows L2
abbrev setO0 (w : World) : Obj := { cls := .type "set", dict := none, data := .set #[] 0 (.fresh 0 0 (!w.params.followText "set-order")) }
section
variable {P : Program} {w : World} {A : Around} {E : Value → Shared → Prop} {s : Shared}
set_option maxHeartbeats 3200000 in
theorem set_ofL {l : Addr} {ys : Array Value} (ns : List Int) {Q : Value → Shared → Prop} (hh : A.handled = none) (hl : s.heap.IsList l ys) (hi : IntsAre ys.toList ns) (hb : ns.length + 1 < scanBound)
    (q : ∀ (h' : Heap) (tk c : Nat), SetR w h' s.heap.objs.size (fun j => decide (j ∈ ns)) c → c ≤ ns.length → (∀ b o, s.heap.get? b = some o → h'.get? b = some o) → Q (.ref s.heap.objs.size) { s with heap := h', toks := tk }) :
    wpAny (model P w) A (call (.type "set") [.ref l]) Q E s := by
  have zy : ys.size = ns.length := by
    have z := IntsAre.length hi
    rwa [Array.length_toList] at z
  obtain ⟨_, _, z0⟩ := F.called_set.mro
  have z1 := F.called_set.made
  have z2 := F.called_set.sub
  refine wpAny_call (codeAny_of_tree (show wpAny _ _ (callAny (.type "set") _) _ _ _ from ?_))
  refine wpAny_pure ⟨Code.quiet_builtin _ (by decide +kernel), codeAny_builtin (F.entry_type_call) (?_)⟩
  rw [Around.under_plain (weight_type_call_type "set" [.ref l] []) (rfl)]
  have z3 := F.called_set.notType
  have z4 := F.called_set.canCreate
  have z5 := F.typeCall_set_1 (.ref l)
  repeat (any_goals (first | wp_step | assumption))
  refine codeAny_mono (code_set_led1 (.ref l) (E := E) (Q₁ := fun obj t => obj = .ref s.heap.objs.size ∧ t = { s with heap := s.heap.push (setO0 w) }) ⟨rfl, rfl⟩) fun r t hr => ?_
  cases r with
  | error e => exact hr
  | ok fl =>
    cases fl with
    | ret obj =>
      obtain ⟨e1, e2⟩ := hr
      subst e1 e2
      have gS : (s.heap.push (setO0 w)).get? s.heap.objs.size = some (setO0 w) := Heap.get?_push_size _ rfl
      have tS : Shared.TypeIs { s with heap := s.heap.push (setO0 w) } (.ref s.heap.objs.size) "set" := ⟨_, gS, rfl⟩
      have z6 := F.called_set.init.lookup
      have z7 := F.called_set.init.bind (.ref s.heap.objs.size)
      repeat (any_goals (first | wp_step | assumption))
      refine codeAny_mono (codeAny_call_builtin (R := wants (fun r t => r = .none ∧ ∃ h' tk c, t = { s with heap := h', toks := tk } ∧ SetR w h' s.heap.objs.size (fun j => decide (j ∈ ns)) c ∧ c ≤ ns.length ∧ ∀ b o, s.heap.get? b = some o → h'.get? b = some o) E) F.called_set.init.plain F.entry_set_init (check_set_init_1 tS ?_)) fun r2 t2 hr2 => ?_
      · obtain ⟨⟨cls, od, data, os⟩, ho, ec, m, ed⟩ := hl
        simp only at ec ed
        subst ec ed
        have ho1 : (s.heap.push (setO0 w)).get? l = some { cls := .type "list", dict := od, data := .seq ys m, slots := os } := Heap.get?_push_of_some _ ho
        have z8 := F.sub_list_set
        have z9 := F.sub_list_frozenset
        have za : (Value.type "list" == Value.type "dict") = false := by decide
        have hl1 : (s.heap.push (setO0 w)).IsList l ys := ⟨_, ho1, rfl, m, rfl⟩
        unfold Builtin.«set.__init__» noKeywords Builtin.Frozenset.updateFrom
        generalize hp : pyIter = p
        wp_walk
        subst hp
        refine wpAny_pyIter_list hl1 (wpAny_bind (wpAny_runValue ?_))
        have ls : l < s.heap.objs.size := Heap.lt_size ho
        have h3 : A.in1.in1.in1.handled = none := by simp [hh]
        have zp : (s.heap.push (setO0 w)).objs.size = s.heap.objs.size + 1 := Heap.size_push ..
        have ne : l ≠ (s.heap.push (setO0 w)).objs.size := by rw [zp]; exact Nat.ne_of_lt (Nat.lt_succ_of_lt ls)
        have nf : s.heap.objs.size ∉ [(s.heap.push (setO0 w)).objs.size, l] := by
          rw [zp]
          intro z
          rcases List.mem_cons.mp z with z | z
          · exact Nat.ne_of_lt (Nat.lt_succ_self _) z
          · exact Nat.ne_of_gt ls (by simpa using z)
        have hv : ∀ (i : Nat) (v : Value), ys[i]? = some v → ∃ k t, ns[i]? = some k ∧ v = .int k t := fun i v e => by
          have lt : i < ns.length := by rw [← zy]; exact (Array.getElem?_eq_some_iff.mp e).1
          obtain ⟨t, e2⟩ := IntsAre.int_at hi i v (by rw [Array.getElem?_toList]; exact e)
          exact ⟨ns[i], t, List.getElem?_eq_getElem lt, by rw [e2, List.getD_eq_getElem?_getD, List.getElem?_eq_getElem lt]; rfl⟩
        refine set_update_ints ((Walks.list h3 _ l ne ys).toS) s.heap.objs.size nf ns zy hb hv (ys.size - 0) 0 _ (by omega) (Nat.zero_le _) ⟨⟨_, Heap.get?_push_size _ rfl, rfl, rfl⟩, (hl1.push _)⟩ ?ha ?hb
        case ha =>
          have g2 : ((s.heap.push (setO0 w)).push { cls := .type "list_iterator", data := .fields #[.ref l, .int 0 0] }).get? s.heap.objs.size = some (setO0 w) := Heap.get?_push_of_some _ gS
          exact ⟨0, Nat.le_refl 0, setR_new_at g2⟩
        case hb =>
          intro t c mv lc hS
          obtain ⟨h', g2, d2, tk2, o2⟩ := t
          have e1 : g2 = s.gens := mv.gens
          have e2 : d2 = s.drawn := mv.drawn
          have e3 : o2 = s.os := mv.os
          subst e1 e2 e3
          refine wpAny_pure (show wpAny _ _ (ret Value.none) _ _ _ from ?_)
          rw [zy] at lc
          refine wpAny_pure ⟨rfl, h', tk2, c, rfl, hS, lc, fun b o e => ?_⟩
          have b0 : b < s.heap.objs.size := Heap.lt_size e
          refine mv.heap b o (fun z => ?_) (Heap.get?_push_of_some _ (Heap.get?_push_of_some _ (e)))
          rcases List.mem_cons.mp z with z | z
          · exact Nat.ne_of_lt b0 z
          · have z : b = (s.heap.push (setO0 w)).objs.size := by simpa using z
            rw [zp] at z
            exact Nat.ne_of_lt (Nat.lt_succ_of_lt b0) z
      · cases r2 with
        | error e => exact hr2
        | ok fl2 =>
          cases fl2 with
          | ret r =>
            obtain ⟨e1, h', tk, c, e2, hS, lc, hk⟩ := hr2
            subst e1 e2
            repeat (any_goals (first | wp_step | assumption))
            exact q _ _ _ hS lc hk
          | _ => exact hr2.elim
    | _ => exact hr.elim
end
end Y

set_option Elab.async false
set_option linter.all false
set_option maxRecDepth 100000
namespace Y
open PySem PySem.Spec PyProof.Rows L2
def dedupI : List Int → List Int
  | [] => []
  | x :: xs => if x ∈ xs then dedupI xs else x :: dedupI xs
@[simp] theorem mem_dedupI : ∀ {xs : List Int} {k : Int}, k ∈ dedupI xs ↔ k ∈ xs
  | [], k => by simp [dedupI]
  | x :: xs, k => by
    unfold dedupI
    split
    · rename_i h
      rw [mem_dedupI, List.mem_cons]
      exact ⟨.inr, fun z => z.elim (fun z => z ▸ h) id⟩
    · rw [List.mem_cons, mem_dedupI, List.mem_cons]
theorem nodup_dedupI : ∀ {xs : List Int}, (dedupI xs).Nodup
  | [] => by simp [dedupI]
  | x :: xs => by
    unfold dedupI
    split
    · exact nodup_dedupI
    · rename_i h
      exact List.nodup_cons.mpr ⟨fun z => h (mem_dedupI.mp z), nodup_dedupI⟩
theorem card_eq {xs ys : List Int} (h1 : xs.Nodup) (h2 : ys.Nodup) (h : ∀ k, k ∈ xs ↔ k ∈ ys) : xs.Perm ys := (List.perm_ext_iff_of_nodup h1 h2).mpr h
def setI (xs : List Int) : List Int := sortI (dedupI xs)
theorem setI_mem {xs : List Int} {k : Int} : k ∈ setI xs ↔ k ∈ xs := by rw [setI, (sortI_perm _).mem_iff, mem_dedupI]
theorem setI_nodup {xs : List Int} : (setI xs).Nodup := (sortI_perm _).nodup_iff.mpr nodup_dedupI
theorem setI_lt {xs : List Int} : (setI xs).Pairwise (· < ·) := by
  have h1 : (setI xs).Pairwise (· ≤ ·) := sortI_pw _
  have h2 : (setI xs).Pairwise (· ≠ ·) := setI_nodup
  exact h1.imp₂ (fun a b h1 h2 => by omega) h2
theorem setI_of {xs ys : List Int} (h : ys.Pairwise (· < ·)) (m : ∀ k, k ∈ ys ↔ k ∈ xs) : ys = setI xs :=
  List.Perm.eq_of_pairwise (le := fun a b : Int => a < b) (fun a b _ _ h1 h2 => by omega) h setI_lt (card_eq (h.imp fun h => by omega) setI_nodup fun k => by rw [m, setI_mem])
theorem setI_len {xs : List Int} : (setI xs).length = (dedupI xs).length := (sortI_perm _).length_eq
def rSetOf (K : PySem.W.Frag) (w : World) : List V → Hp → VK → Prop := fun vs H Q => ∃ (l : Addr) (ns : List Int), vs = [V.ref l] ∧ (SqL K H l (ns.map V.int) ∨ SqT K H l (ns.map V.int)) ∧ ns.length ≤ 4000 ∧
  ∀ p, H p = none → Q (.ref p) (upd H p (SetO w p (fun j => decide (j ∈ ns)) (dedupI ns).length))
section
variable {X : Cx}
theorem setR_card {w : World} {h : Heap} {a : Addr} {ns : List Int} {c : Nat} (R : SetR w h a (fun j => decide (j ∈ ns)) c) : c = (dedupI ns).length := by
  obtain ⟨o, es, ep, t, ho, hx, hd, g, nd, hm, hb, hf, hn, _⟩ := R
  have := (card_eq nd (nodup_dedupI (xs := ns)) fun k => by rw [mem_dedupI, ← hm k]; simp).length_eq
  rw [← hn, ← this]
  simp
theorem cr_setOf (hc : X.calm = true) : CallR X (.type "set") (rSetOf X.K X.w) := by
  intro pins s σ H vs us Q I r ⟨l, ns, e0, hq, hz, q⟩
  subst e0
  rw [Vals.ref1 r]
  have fin : ∀ (h' : Heap) (tk c : Nat), SetR X.w h' s.heap.objs.size (fun j => decide (j ∈ ns)) c → (∀ b o, s.heap.get? b = some o → h'.get? b = some o) → EP X pins σ Q (.ref s.heap.objs.size) { s with heap := h', toks := tk } := fun h' tk c R k => by
    rw [setR_card R] at R
    exact ⟨.ref _, upd H s.heap.objs.size (SetO X.w s.heap.objs.size (fun j => decide (j ∈ ns)) (dedupI ns).length), I.laid (t' := tk) k (Nat.le_refl _) (setO_new R), rfl, q _ (I.hok.fresh (Nat.le_refl _))⟩
  have hb : ns.length + 1 < scanBound := by unfold scanBound; omega
  rcases hq with hq | hq
  · obtain ⟨its, rv, p, _⟩ := I.list hq
    exact set_ofL ns (I.ok.hd hc) p.isList (by simpa using rv.ints) hb fun h' tk c R _ k => fin h' tk c R k
  · obtain ⟨its, rv, p, _⟩ := I.tuple hq
    exact call_set_tupI ns (I.ok.hd hc) p (by simpa using rv.ints) hb fun h' tk c R _ k => fin h' tk c R k
end
def seqI : D → Option (List Int)
  | .lst ds => intsOf ds
  | .tup ds => intsOf ds
  | .arg ns => some ns
  | _ => none
def cSetSort (m : EM) : EM := fun ρ => do
  let (h, ρ1) ← m ρ
  let d ← (h.d ρ1).nox
  match seqI d with
  | some ns => if ns.length ≤ 4000 ∧ (dedupI ns).length < 64 then pure (.fr (.lst ((setI ns).map D.int)), ρ1) else .stk
  | none => .stk
section
variable {K : PySem.W.Frag} {X : Cx} {P0 : Pr} {O W : List Nat} {E : EK} {a e : Expr} {ma : EM} {pos : Pos}
theorem RepW.seqI {H : Hp} {d : D} {P : Pr} {v : V} {ns : List Int} (r : RepW K H d P v) (e : seqI d = some ns) : ∃ l, v = .ref l ∧ (SqL K H l (ns.map V.int) ∨ SqT K H l (ns.map V.int)) := by
  cases d <;> simp only [Y.seqI, reduceCtorEq, Option.some.injEq] at e
  · obtain ⟨l, vs, rfl, t1, t2⟩ := r.tup
    rw [ints_rep e t2] at t1
    exact ⟨l, rfl, .inr (SqT.of t1)⟩
  · obtain ⟨l, vs, rfl, t1, t2⟩ := r.lst
    rw [ints_rep e t2] at t1
    exact ⟨l, rfl, .inl (SqL.of t1)⟩
  · subst e
    obtain ⟨l, rfl, t1⟩ := r.arg
    exact ⟨l, rfl, .inl t1⟩
theorem ce_setSort {p p2 q : Pos} (hc : X.calm = true) (hm : X.mg "sorted" = none) (hm2 : X.mg "set" = none) (ha : CEx X P0 O W E a ma) (hg : Gl X "sorted" := by rfl) (hg2 : Gl X "set" := by rfl)
    (na : starEach [a] X.env = (false, eval a X.env) :: starEach [] X.env := by rfl) (n2 : starEach [.Call (.Name "set" p2) [a] [] q] X.env = (false, eval (.Call (.Name "set" p2) [a] [] q) X.env) :: starEach [] X.env := by rfl) :
    CEx X P0 O W E (.Call (.Name "sorted" p) [.Call (.Name "set" p2) [a] [] q] [] pos) (cSetSort ma) :=
  PE.imp (pe_callB (cr_sortedSet hc) hg hm bo_sorted (pa_cons (pe_callTy (cr_setOf hc) hg2 hm2 bo_set (pa_cons ha pa_nil na) (by decide) (by decide) na rfl) pa_nil n2) (by decide) (by decide) n2 rfl) fun σ H Q ⟨ρ, S, h⟩ => by
    refine ⟨ρ, S, h.of_bind.mono fun ⟨h1, ρ1⟩ q v H1 S1 k1 r1 => ?_⟩
    obtain ⟨d, e1, q⟩ := q.of_nox
    have rw1 := r1.d S1 e1
    have q : Res E W σ H (match seqI d with | some ns => if ns.length ≤ 4000 ∧ (dedupI ns).length < 64 then R.ok (Hd.fr (.lst ((setI ns).map D.int)), ρ1) else .stk | none => .stk) _ := q
    cases es : seqI d with
    | none => rw [es] at q; exact q.elim
    | some ns =>
      rw [es] at q
      simp only at q
      by_cases c : ns.length ≤ 4000 ∧ (dedupI ns).length < 64
      · rw [if_pos c] at q
        obtain ⟨l, rfl, hl⟩ := rw1.seqI es
        refine ⟨l, ns, rfl, hl, c.1, fun p hp => ?_⟩
        refine ⟨p, _, _, rfl, upd_same, c.2, fun ms p' pw mm lm hp' => ?_⟩
        have em : ms = setI ns := setI_of pw fun k => by rw [mm]; simp
        subst em
        have hpn : H1 p' = none := by
          by_cases z : p' = p
          · rw [z, upd_same] at hp'; cases hp'
          · rwa [upd_ne z] at hp'
        have sm : Same H1 (upd (upd H1 p (SetO X.w p (fun j => decide (j ∈ ns)) (dedupI ns).length)) p' (.lst ((setI ns).map V.int))) := fun b o e => by
          rw [upd_ne (ne_of_none e hpn), upd_ne (ne_of_none e hp)]; exact e
        refine out_of (K := X.K) S1 k1 q _ _ sm ?_ fun _ a e => by cases e; exact hpn
        unfold Rep
        exact ⟨p', _, rfl, fun z => (S1.dom p' z).some hpn, upd_same, reps_ints _⟩
      · rw [if_neg c] at q
        exact q.elim
end
variable {ρ : Y.Env}
@[simp] theorem e_setSort {m : EM} : cSetSort m ρ = (m ρ >>= fun p => (p.1.d p.2).nox >>= fun d => match seqI d with | some ns => if ns.length ≤ 4000 ∧ (dedupI ns).length < 64 then R.ok (.fr (.lst ((setI ns).map D.int)), p.2) else .stk | none => .stk) := id rfl
@[simp] theorem seqI_l {ns : List Int} : seqI (.lst (ns.map D.int)) = some ns := ints_map ns
@[simp] theorem seqI_t {ns : List Int} : seqI (.tup (ns.map D.int)) = some ns := ints_map ns
end Y

set_option Elab.async false
set_option linter.all false
set_option maxRecDepth 100000
namespace Y
open PySem PySem.Spec PyProof.Rows L2
section
variable {K : PySem.W.Frag} {X : Cx} {P0 : Pr} {O W U : List Nat} {E : EK} {a b e : Expr} {sts : List Stmt} {ma mb : EM} {pos : Pos}
def indexD : D → D → R D
  | .lst ds, y => if (dOk (.lst ds) && dOk y) = true then (match ds.findIdx? fun z => eqP z y with | some j => .ok (.int j) | none => .stk) else .stk
  | .str x, .str y => (match Builtin.Str.occurrences x y 0 x.length 1 with | i :: _ => .ok (.int (i : Nat)) | [] => .stk)
  | _, _ => .stk
def cIndex (a b : EM) : EM := fun ρ => do
  let (h1, ρ1) ← a ρ
  let x0 ← (h1.d ρ1).nox
  match x0 with
  | .str x => do
    let (h2, ρ2) ← b ρ1
    let y ← (h2.d ρ2).nox
    let z ← (indexD (.str x) y).nox
    pure (.fr z, ρ2)
  | .lst _ => do
    let (h2, ρ2) ← b ρ1
    let x ← (h1.d ρ2).nox
    let y ← (h2.d ρ2).nox
    let z ← (indexD x y).nox
    pure (.fr z, ρ2)
  | _ => .stk
theorem dps_find {y : D} : ∀ {ds : List D} {j : Nat}, (ds.findIdx? fun z => eqP z y) = some j → (∃ z, (toPys ds)[j]? = some z ∧ PyData.eqv z (toPy y) = true) ∧ ∀ (m : Nat) (z : PyData), m < j → (toPys ds)[m]? = some z → PyData.eqv z (toPy y) = false
  | [], j, h => by simp at h
  | d :: ds, j, h => by
    rw [List.findIdx?_cons] at h
    by_cases c : eqP d y = true
    · rw [if_pos c] at h
      cases h
      exact ⟨⟨toPy d, by unfold toPys; rfl, c⟩, fun m z hm => by omega⟩
    · rw [if_neg c] at h
      cases e : ds.findIdx? fun z => eqP z y with
      | none => rw [e] at h; cases h
      | some i =>
        rw [e] at h
        cases h
        obtain ⟨⟨z, e1, e2⟩, e3⟩ := dps_find e
        refine ⟨⟨z, by unfold toPys; simpa using e1, e2⟩, fun m z hm hz => ?_⟩
        unfold toPys at hz
        cases m with
        | zero => simp at hz; subst hz; exact Bool.not_eq_true _ ▸ c
        | succ m => exact e3 m z (by have hm : m + 1 < i + 1 := hm; omega) (by simpa using hz)
theorem ce_index {apos : Pos} (hu : X.A.units + 65 < cLine) (ha : CEx X P0 O W E a ma) (hb : CEx X P0 O W E b mb) (hs : starEach [b] X.env = (false, eval b X.env) :: starEach [] X.env := by rfl) (hs2 : starEach [b] X.env = [(false, eval b X.env)] := by rfl) (hpl : (backTo pos (starEach [] X.env)).any (·.1) = false := by rfl)
    (hbase : attributeBase a "index" X.env (eval a X.env) = eval a X.env := by rfl) (hline : (apos.endLine == pos.line) = true := by rfl) (hfew : Few X pos [b] := by rfl) : CEx X P0 O W E (.Call (.Attribute a "index" apos) [b] [] pos) (cIndex ma mb) :=
  PE.imp (PE.or (pe_bm PySem.F.plainAttrs_list PySem.F.slot_list_index PySem.F.type_list_index (mt_indexD hu) ha (pa_cons hb pa_nil hs) hbase hfew hline hs hpl)
    (pe_m1 PySem.F.slot_str_index PySem.F.type_str_index mt_sindex ha hb hs2 hbase hline)) fun σ H Q ⟨ρ, S, h⟩ => by
    unfold cIndex at h
    cases em : ma ρ with
    | stk => rw [em] at h; exact h.elim
    | er c ds =>
      rw [em] at h
      exact .inl ⟨ρ, S, by rw [em]; exact h⟩
    | ok p =>
      obtain ⟨h1, ρ1⟩ := p
      rw [em] at h
      obtain ⟨x0, e0, h⟩ := Res.of_nox (show Res E W σ H ((h1.d ρ1).nox >>= _) _ from h)
      cases x0 <;> first | (exact h.elim) | skip
      · rename_i x
        refine .inr ⟨ρ, S, ?_⟩
        rw [em]
        intro v H1 S1 k1 r1
        obtain rfl := (r1.d S1 e0).str
        have h : Res E W σ H (mb ρ1 >>= fun q => (q.1.d q.2).nox >>= fun y => (indexD (.str x) y).nox >>= fun z => R.ok (Hd.fr z, q.2)) _ := h
        refine ⟨⟨x, rfl⟩, ρ1, S1, (h.of_bind.keep k1).mono fun ⟨h2, ρ2⟩ q w H2 S2 k2 r2 => ?_⟩
        obtain ⟨y, e2, q⟩ := q.of_nox
        obtain ⟨z, e3, q⟩ := q.of_nox
        have rw2 := r2.d S2 e2
        cases y <;> simp only [indexD, reduceCtorEq] at e3
        rename_i y
        obtain rfl := rw2.str
        split at e3
        · rename_i i rest eo
          cases e3
          exact ⟨x, y, i, rest, rfl, rfl, eo, (out_of (K := X.K) S2 (k1.trans k2) q).flat (by unfold Rep; rfl) rfl⟩
        · cases e3
      · rename_i ds0 _
        refine .inl ⟨ρ, S, ?_⟩
        rw [em]
        intro v H1 S1 k1 r1
        obtain ⟨l, vs, rfl, t1, t2⟩ := (r1.d S1 e0).lst
        have h : Res E W σ H (mb ρ1 >>= fun q => (h1.d q.2).nox >>= fun x => (q.1.d q.2).nox >>= fun y => (indexD x y).nox >>= fun z => R.ok (Hd.fr z, q.2)) _ := h
        refine ⟨.inl ⟨rfl, _, SqL.of t1⟩, ρ1, S1, (h.of_bind.keep k1).mono fun ⟨h2, ρ2⟩ q w H2 S2 k2 r2 => ?_⟩
        obtain ⟨x, e1, q⟩ := q.of_nox
        obtain ⟨y, e2, q⟩ := q.of_nox
        obtain ⟨z, e3, q⟩ := q.of_nox
        have rw1 := (r1.keep S1 k2).d S2 e1
        have rw2 := r2.d S2 e2
        have o := out_of (K := X.K) S2 (k1.trans k2) q
        cases x <;> simp only [indexD, reduceCtorEq] at e3
        · obtain ⟨_, _, e, _⟩ := rw1
        · rename_i ds _
          split at e3
          · rename_i c
            rw [Bool.and_eq_true] at c
            split at e3
            · rename_i j ej
              cases e3
              obtain ⟨⟨z, g1, g2⟩, g3⟩ := dps_find ej
              exact ⟨l, w, toPy y, toPys ds, j, z, rfl, rfl, by have q := rw1.dp c.1; unfold toPy at q; exact q, rw2.dp c.2, by have q := c.1; unfold dOk toPy at q; exact q, c.2, g1, g2, g3, o.flat (by unfold Rep; rfl) rfl⟩
            · cases e3
          · cases e3
end
variable {ρ : Y.Env}
@[simp] theorem e_index {a b : EM} : cIndex a b ρ = (a ρ >>= fun p => (p.1.d p.2).nox >>= fun x0 => match x0 with
    | .str x => (b p.2 >>= fun q => (q.1.d q.2).nox >>= fun y => (indexD (.str x) y).nox >>= fun z => R.ok (.fr z, q.2))
    | .lst _ => (b p.2 >>= fun q => (p.1.d q.2).nox >>= fun x => (q.1.d q.2).nox >>= fun y => (indexD x y).nox >>= fun z => R.ok (.fr z, q.2))
    | _ => .stk) := by
  unfold cIndex; congr
end Y

set_option Elab.async false
set_option linter.all false
set_option maxRecDepth 100000
namespace Y
open PySem PySem.Spec PyProof.Rows L2
theorem chkO_ws {O W : List Nat} {ρ : Y.Env} (h : (W.all fun i => O.contains i && shAt i ρ) = true) : chkO O W ρ ρ = .ok () := by
  unfold chkO
  rw [if_pos]
  intro j d e
  by_cases c : j ∈ W
  · have := List.all_eq_true.mp h j c
    rw [Bool.and_eq_true] at this
    obtain ⟨h1, h2⟩ := this
    unfold shAt at h2
    rw [e] at h2
    exact .inr (.inl ⟨by simpa using h1, h2⟩)
  · exact .inl ⟨e, c⟩
end Y

set_option Elab.async false
set_option linter.all false
set_option maxRecDepth 100000
namespace Y
open PySem PySem.Spec PyProof.Rows L2
section
variable {X : Cx} {P0 : Pr} {O W : List Nat} {E : EK} {XE : XK} {e : Expr} {es : List Expr} {ms : AM} {pos : Pos} {k np : Nat} {name : Str}
end
end Y

set_option Elab.async false
set_option linter.all false
set_option maxRecDepth 100000
namespace Y.HR
open PySem PySem.Spec PyProof.Rows L2 _root_.HT PySem.W PySem.SeqAt PySem.AutoSeq1 PySem.MeetsSeq PySem.MeetsSeq2 PySem.MeetsSeq3
section
variable {prog : Program} {w : World} {A : Around} {E : Value → Shared → Prop} {s : Shared}
end
end Y.HR
namespace Y
open PySem PySem.Spec PyProof.Rows L2
def RvR (X : Cx) (r : V → Hp → VK → Prop) : Prop :=
  ∀ (pins : List (Addr × Obj)) (s : Shared) (σ : St) (H : Hp) (x : V) (v vk : Value) (sl : Addr) (Q : VK), Inv X pins σ H s → RelV x v → s.heap.IsSliceOf sl .none .none vk → IsPart vk (some (-1)) → r x H Q →
    ∃ T id, typeLookup (.type T) "__getitem__" = pure (some (.builtin id)) ∧ s.TypeIs v T ∧ wpAny (model X.prog X.w) X.A (getItem v (.ref sl)) (EP X pins σ Q) X.xe s
theorem RvR.or {X : Cx} {r r' : V → Hp → VK → Prop} (h : RvR X r) (h' : RvR X r') : RvR X (fun x H Q => r x H Q ∨ r' x H Q) := by
  intro pins s σ H x v vk sl Q I rx hs pk q
  rcases q with q | q
  · exact h pins s σ H x v vk sl Q I rx hs pk q
  · exact h' pins s σ H x v vk sl Q I rx hs pk q
section
variable {X : Cx} {e k : Expr} {te : TE} {p2 pos : Pos}
variable {P0 : Pr} {O W : List Nat} {E : EK} {ma : EM} {mk : OM}
def cDic0 : EM := fun ρ => .ok (.fr (.dik [] []), ρ)
theorem ce_dic0 : CEx X P0 O W E (.Dict [] [] pos) cDic0 := PE.imp pe_dnewK fun σ H Q ⟨ρ, S, h⟩ => fun p hp => by
  have out : Out X.K (FA P0 O σ) H (.dik [] []) Q := out_of S .refl fun v H' S' k r => h v H' S' k r
  refine out (.ref p) _ (Same.new hp) ?_ fun _ a e => by cases e; exact hp
  unfold Rep
  exact ⟨p, [], rfl, fun z => (S.dom p z).some hp, rfl, .inl upd_same, Reps.nil⟩
end
@[simp] theorem e_dic0 {ρ : Env} : cDic0 ρ = .ok (.fr (.dik [] []), ρ) := id rfl
@[simp] theorem d_mulS {x : Str} {k : Int} : mulD (.str x) (.int k) = if k < 2 ^ 20 ∧ -(2 ^ 20) < k ∧ szOk (x.length * k.toNat) = true then .ok (.str (repS k x)) else .stk := id rfl
@[simp] theorem d_mulT {x : List D} {k : Int} : mulD (.tup x) (.int k) = if x.isEmpty = false ∧ -(2 ^ 20) < k ∧ k ≤ 1000 ∧ x.length ≤ 1000 then .ok (.tup (List.replicate k.toNat x).flatten) else .stk := id rfl
@[simp] theorem d_mulL {x : List D} {k : Int} : mulD (.lst x) (.int k) = if k < 2 ^ 20 ∧ -(2 ^ 20) < k ∧ szOk (x.length * k.toNat) = true then .ok (.lst (List.replicate k.toNat x).flatten) else .stk := id rfl
end Y

set_option Elab.async false
set_option linter.all false
set_option maxRecDepth 100000
namespace Y
open PySem PySem.Spec PyProof.Rows L2
section
variable {K : PySem.W.Frag} {P0 : Pr} {O W U : List Nat} {ρ : Y.Env} {σ : L2.St} {H : Hp}
theorem RepO.less2 {d : D} {P P' : Pr} {v : V} (hm : ∀ b, P b → isMut (H b)) (h : RepO K H d P v) (hp : ∀ b, P' b → P b) : RepO K H d P' v := h.mono hm (fun _ _ e _ => e) (fun b z => .inl (hp b z)) fun _ _ _ e => e
theorem Sim.openL (S : Sim K P0 O W ρ σ H) {i : Nat} {p : Addr} (hi : i ∉ O) (hl : i < ρ.length) (hp : H p = none) : Sim K P0 (i :: O) W (ρ.set i (some (.lst []))) (σ.set i (some (.ref p))) (upd H p (.lst [])) := by
  have hs : i < σ.length := Nat.lt_of_lt_of_le hl S.len
  have np : ¬ FA P0 O σ p := fun z => by have := S.dom p z; rw [hp] at this; exact this
  have gs : ∀ {j : Nat} {b : Addr}, j ∈ i :: O → (σ.set i (some (V.ref p)))[j]? = some (some (.ref b)) → (j = i ∧ b = p) ∨ (j ∈ O ∧ j ≠ i ∧ σ[j]? = some (some (.ref b))) := fun {j b} hj e => by
    by_cases hij : i = j
    · subst hij
      rw [List.getElem?_set_self hs] at e
      cases e
      exact .inl ⟨rfl, rfl⟩
    · rw [List.getElem?_set_ne hij] at e
      exact .inr ⟨(List.mem_cons.mp hj).resolve_left fun z => hij z.symm, fun z => hij z.symm, e⟩
  have fa : ∀ b, FA P0 (i :: O) (σ.set i (some (V.ref p))) b → FA P0 O σ b ∨ b = p := fun b z => by
    rcases z with z | ⟨j, hj, e⟩
    · exact .inl (.inl z)
    · rcases gs hj e with ⟨_, e⟩ | ⟨h1, _, h2⟩
      · exact .inr e
      · exact .inl (.inr ⟨j, h1, h2⟩)
  have sm : Same H (upd H p (.lst [])) := Same.new hp
  refine ⟨fun j hj => List.mem_cons_of_mem _ (S.sub j hj), by simpa using S.len, fun b z => ?_, fun j d e n => ?_, fun j d e n => ?_, fun j k a hj hk e1 e2 => ?_, fun a z hz => ?_⟩
  · by_cases hb : b = p
    · rw [hb, upd_same]; trivial
    · rw [upd_ne hb]
      rcases fa b z with z | z
      · exact S.dom b z
      · exact absurd z hb
  · have hij : i ≠ j := fun z => n (by simp [z])
    rw [List.getElem?_set_ne hij] at e ⊢
    obtain ⟨v, h1, h2⟩ := S.val j d e fun z => n (List.mem_cons_of_mem _ z)
    exact ⟨v, h1, h2.mono d S.dom (fun b o e _ => sm b o e) fun b z => (fa b z).imp id fun e => by rw [e]; exact hp⟩
  · by_cases hij : i = j
    · subst hij
      rw [List.getElem?_set_self hl] at e
      cases e
      exact ⟨_, List.getElem?_set_self hs, p, [], rfl, upd_same, Reps.nil⟩
    · rw [List.getElem?_set_ne hij] at e ⊢
      obtain ⟨v, h1, h2⟩ := S.own j d e ((List.mem_cons.mp n).resolve_left fun z => hij z.symm)
      exact ⟨v, h1, h2.mono S.dom (fun b o e _ => sm b o e) (fun b z => (fa b z).imp id fun e => by rw [e]; exact hp) fun a o _ e => sm a o e⟩
  · rcases gs hj e1 with ⟨a1, a2⟩ | ⟨a1, a2, a3⟩
    · rcases gs hk e2 with ⟨b1, b2⟩ | ⟨b1, b2, b3⟩
      · rw [a1, b1]
      · exact absurd (.inr ⟨k, b1, by rw [← a2]; exact b3⟩) np
    · rcases gs hk e2 with ⟨b1, b2⟩ | ⟨b1, b2, b3⟩
      · exact absurd (.inr ⟨j, a1, by rw [← b2]; exact a3⟩) np
      · exact S.sep j k a a1 b1 a3 b3
  · obtain ⟨j, hj, e⟩ := z
    rcases gs hj e with ⟨_, e⟩ | ⟨h1, _, h2⟩
    · exact np (.inl (by rw [← e]; exact hz))
    · exact S.sep0 a ⟨j, h1, h2⟩ hz
theorem Sim.closeL (S : Sim K P0 (i :: O) W ρ σ H) {y : Nat} {a : Addr} {ds : List D} {vs : List V} (hW : ∀ j ∈ W, j ∈ O) (hi : i ∉ O) (hy : y ∉ O) (hyi : y ≠ i) (ha : σ[i]? = some (some (.ref a))) (hH : H a = some (.lst vs)) (hr : Reps K H ds (FA P0 (i :: O) σ) vs) :
    Sim K P0 O W ((ρ.set y (some (.lst ds))).set i none) (σ.set y (some (.ref a))) H := by
  have gs : ∀ {j : Nat}, j ∈ O → (σ.set y (some (V.ref a)))[j]? = σ[j]? := fun {j} hj => List.getElem?_set_ne fun z => hy (by rw [z]; exact hj)
  have fa : ∀ b, FA P0 O (σ.set y (some (V.ref a))) b → FA P0 (i :: O) σ b := fun b z => by
    rcases z with z | ⟨j, hj, e⟩
    · exact .inl z
    · rw [gs hj] at e
      exact .inr ⟨j, List.mem_cons_of_mem _ hj, e⟩
  have oa : OA (i :: O) σ a := ⟨i, by simp, ha⟩
  have na : ¬ FA P0 O (σ.set y (some (V.ref a))) a := fun z => by
    rcases z with z | ⟨j, hj, e⟩
    · exact S.sep0 a oa z
    · rw [gs hj] at e
      exact hi (by rw [← S.sep j i a (List.mem_cons_of_mem _ hj) (by simp) e ha]; exact hj)
  refine ⟨hW, by simpa using S.len, fun b z => S.dom b (fa b z), fun j d e n => ?_, fun j d e n => ?_, fun j k b hj hk e1 e2 => ?_, fun b z => ?_⟩
  · by_cases hij : i = j
    · subst hij
      have h1 : i < ρ.length := by have := (List.getElem?_eq_some_iff.mp e).1; simpa using this
      rw [List.getElem?_set_self (by simpa using h1)] at e
      cases e
    · rw [List.getElem?_set_ne hij] at e
      by_cases hyj : y = j
      · subst hyj
        have h1 : y < ρ.length := by have := (List.getElem?_eq_some_iff.mp e).1; simpa using this
        rw [List.getElem?_set_self h1] at e
        cases e
        refine ⟨_, List.getElem?_set_self (Nat.lt_of_lt_of_le h1 S.len), ?_⟩
        unfold Rep
        exact ⟨a, vs, rfl, na, hH, hr.less S.dom fun b z => z.elim (fa b) fun z => .inr (by rw [z]; exact oa)⟩
      · rw [List.getElem?_set_ne hyj] at e ⊢
        obtain ⟨v, h1, h2⟩ := S.val j d e fun z => (List.mem_cons.mp z).elim (fun q => hij q.symm) n
        exact ⟨v, h1, h2.less S.dom fa⟩
  · have hij : i ≠ j := fun z => hi (by rw [z]; exact n)
    have hyj : y ≠ j := fun z => hy (by rw [z]; exact n)
    rw [List.getElem?_set_ne hij, List.getElem?_set_ne hyj] at e
    obtain ⟨v, h1, h2⟩ := S.own j d e (List.mem_cons_of_mem _ n)
    exact ⟨v, by rw [gs n]; exact h1, h2.less2 S.dom fa⟩
  · rw [gs hj] at e1
    rw [gs hk] at e2
    exact S.sep j k b (List.mem_cons_of_mem _ hj) (List.mem_cons_of_mem _ hk) e1 e2
  · obtain ⟨j, hj, e⟩ := z
    rw [gs hj] at e
    exact S.sep0 b ⟨j, List.mem_cons_of_mem _ hj, e⟩
end
theorem Res.chg {E : EK} {O O1 : List Nat} {σ σ1 : L2.St} {H H1 : Hp} {α : Type} {r : R α} {k : α → Prop} (h : Res E O σ H r k) (f : ∀ H', Keep O1 σ1 H1 H' → Keep O σ H H') : Res E O1 σ1 H1 r k := by
  cases r with
  | ok a => exact h
  | er c ds => exact fun H' kp => h H' (f H' kp)
  | stk => exact h
def sBuild (i y : Nat) (m : SM) : SM := fun ρ =>
  if i < ρ.length then do
    let (f, ρ2) ← m (ρ.set i (some (.lst [])))
    match f with
    | .nx => do
      let ds ← (lstAt i ρ2).nox
      pure (.nx, (ρ2.set y (some (.lst ds))).set i none)
    | _ => .stk
  else .stk
section
variable {X : Cx} {P0 : Pr} {O W U : List Nat} {E : EK} {st2 : Stmt} {m : SM}
theorem cs_build {i y : Nat} {x z : Str} {p1 p2 p3 p4 p5 p6 : Pos} (hN : X.N.Nodup) (h2 : CS X P0 (i :: O) W U E st2 m) (hW : ∀ j ∈ W, j ∈ O := by decide) (hi : i ∉ O := by decide) (hy : y ∉ O := by decide) (hyi : y ≠ i := by decide) (hu : i ∉ U := by decide) (hu2 : y ∉ U := by decide)
    (hx : X.N[i]? = some x := by rfl) (hz : X.N[y]? = some z := by rfl) (hl : Loc X.env.scope x := by first | exact Or.inl rfl | exact Or.inr rfl) (hl2 : Loc X.env.scope z := by first | exact Or.inl rfl | exact Or.inr rfl)
    (hv : Vis X.env.scope x := by first | exact Or.inl rfl | exact Or.inr rfl)
    (hf : X.fn x = true ∨ X.env.scope.names.lookup x = some .local := by first | exact .inl rfl | exact .inr rfl) (hf2 : X.fn z = true ∨ X.env.scope.names.lookup z = some .local := by first | exact .inl rfl | exact .inr rfl)
    (hd : (x == ("__debug__" : Str)) = false := by decide) (hcd : (x == ("__classdict__" : Str)) = false := by decide)
    (hs : swapsWithSole [.Name x p1] (.List [] p2) p3.line X.env = pure false := by rfl) (hw : swappedStores [.Name x p1] (.List [] p2) X.env = pure none := by rfl)
    (hs2 : swapsWithSole [.Name z p4] (.Name x p5) p6.line X.env = pure false := by rfl) (hw2 : swappedStores [.Name z p4] (.Name x p5) X.env = pure none := by rfl) :
    CSs X P0 O W U E [.Assign [.Name x p1] (.List [] p2) p3, st2, .Assign [.Name z p4] (.Name x p5) p6] (sBuild i y m) :=
  PSs.imp (pss_cons (ps_asg (pe_lst pa_nil) (pg_name hN hx hl hf) hs hw) (pss_cons h2 (pss_one (ps_asg (pe_var hx hv hd hcd) (pg_name hN hz hl2 hf2) hs2 hw2)))) fun D σ H ⟨ρ, S, h⟩ => by
    have h : Res E O σ H (if i < ρ.length then (m (ρ.set i (some (.lst []))) >>= fun q => match q.1 with | .nx => ((lstAt i q.2).nox >>= fun ds => R.ok (Fl.nx, (q.2.set y (some (.lst ds))).set i none)) | _ => .stk) else .stk) _ := h
    by_cases hlen : i < ρ.length
    · rw [if_pos hlen] at h
      refine ⟨Nat.zero_le _, fun p hp => ?_⟩
      have S1 := S.openL hi hlen hp
      have hs1 : i < σ.length := Nat.lt_of_lt_of_le hlen S.len
      have g1 : ∀ {j : Nat}, j ∈ O → (σ.set i (some (V.ref p)))[j]? = σ[j]? := fun {j} hj => List.getElem?_set_ne fun q => hi (by rw [q]; exact hj)
      have o1 : ∀ {b : Addr}, OA (i :: O) (σ.set i (some (V.ref p))) b → OA O σ b ∨ b = p := fun {b} ⟨j, hj, e⟩ => by
        by_cases hij : i = j
        · subst hij
          rw [List.getElem?_set_self hs1] at e
          cases e
          exact .inr rfl
        · rw [List.getElem?_set_ne hij] at e
          exact .inl ⟨j, (List.mem_cons.mp hj).resolve_left fun q => hij q.symm, e⟩
      have np : ∀ {b : Addr} {o : HO}, H b = some o → b ≠ p := fun e q => by rw [q, hp] at e; cases e
      refine ⟨ρ.set i (some (.lst [])), S1, ?_⟩
      have h0 := h.of_bind
      have h1 := h0.chg (O1 := i :: O) (σ1 := σ.set i (some (V.ref p))) (H1 := upd H p (.lst [])) fun H' k => ⟨fun b o e n => k.keep b o (by rw [upd_ne (np e)]; exact e) fun q => (o1 q).elim n fun q => np e q, fun b e => k.some b (by
        by_cases hb : b = p
        · rw [hb, upd_same]; intro q; cases q
        · rw [upd_ne hb]; exact e)⟩
      refine h1.mono fun ⟨f, ρ2⟩ q σ2 H2 S2 t2 l2 => ?_
      cases f with
      | bk => exact q.elim
      | ct => exact q.elim
      | rt hd => exact q.elim
      | nx =>
        obtain ⟨ds, e1, q⟩ := Res.of_nox (show Res E O σ H ((lstAt i ρ2).nox >>= fun ds => R.ok (Fl.nx, (ρ2.set y (some (.lst ds))).set i none)) _ from q)
        obtain ⟨a, vs, ha, hH, hr⟩ := S2.lst (i := i) (by simp) (lstAt_ok e1)
        refine ⟨.ref a, ha, ?_⟩
        have S3 := S2.closeL hW hi hy hyi ha hH hr
        have g3 : ∀ {j : Nat}, j ∈ O → (σ2.set y (some (V.ref a)))[j]? = σ2[j]? := fun {j} hj => List.getElem?_set_ne fun q => hy (by rw [q]; exact hj)
        refine q _ H2 S3 ⟨fun b o e n => ?_, fun b e => ?_, fun b ⟨j, hj, e⟩ => ?_, fun j hj => ?_⟩ ?_
        · exact t2.keep b o (by rw [upd_ne (np e)]; exact e) fun q => (o1 q).elim n fun q => np e q
        · refine t2.some b ?_
          by_cases hb : b = p
          · rw [hb, upd_same]; intro q; cases q
          · rw [upd_ne hb]; exact e
        · rw [g3 hj] at e
          rcases t2.own b ⟨j, List.mem_cons_of_mem _ hj, e⟩ with z | z
          · rcases o1 z with z | z
            · exact .inl z
            · exact .inr (by rw [z]; exact hp)
          · refine .inr ?_
            by_cases hb : b = p
            · rw [hb]; exact hp
            · rw [upd_ne hb] at z; exact z
        · rw [List.getElem?_set_ne fun q => hu2 (by rw [q]; exact hj), t2.unch j hj, List.getElem?_set_ne fun q => hu (by rw [q]; exact hj)]
        · rw [List.length_set, l2, List.length_set]
    · rw [if_neg hlen] at h
      exact h.elim
end
@[simp] theorem e_build {i y : Nat} {m : SM} {ρ : Y.Env} : sBuild i y m ρ = if i < ρ.length then (m (ρ.set i (some (.lst []))) >>= fun q => match q.1 with | .nx => ((lstAt i q.2).nox >>= fun ds => R.ok (Fl.nx, (q.2.set y (some (.lst ds))).set i none)) | _ => .stk) else .stk := id rfl
end Y

set_option Elab.async false
set_option linter.all false
set_option maxRecDepth 100000
namespace Y
open PySem PySem.Spec PyProof.Rows L2
section
variable {K : PySem.W.Frag} {H : Hp} {P : Pr}
end
section
variable {X : Cx} {P0 : Pr} {Oc : List Nat} {E : EK} {XE : XK} {e : Expr} {es : List Expr} {ms : AM} {pos : Pos} {k np : Nat} {name : Str}
end
end Y

set_option Elab.async false
set_option linter.all false
set_option maxRecDepth 100000
namespace Y
open PySem PySem.Spec PyProof.Rows L2
section
variable {κ : Type} [DecidableEq κ]
def findD : List κ → List D → κ → Option D
  | k' :: ks, d :: ds, k => if k' = k then some d else findD ks ds k
  | _, _, _ => none
theorem findD_rep {K : PySem.W.Frag} {H : Hp} {P : Pr} {k : κ} : ∀ {ks : List κ} {ds : List D} {vs : List V}, Reps K H ds P vs → ks.length = vs.length →
    (∀ d, findD ks ds k = some d → ∃ v, valV (ks.zip vs) k = some v ∧ Rep K H d P v) ∧ (findD ks ds k = none → valV (ks.zip vs) k = none)
  | [], ds, vs, h, hl => by
    have : vs = [] := List.eq_nil_of_length_eq_zero hl.symm
    subst this
    exact ⟨fun d e => by simp [findD] at e, fun _ => rfl⟩
  | k' :: ks, [], vs, h, hl => by
    have : vs = [] := h.nil_iff
    subst this
    simp at hl
  | k' :: ks, d' :: ds, vs, h, hl => by
    obtain ⟨v, ws, rfl, h1, h2⟩ := h.cons_iff
    obtain ⟨i1, i2⟩ := findD_rep (k := k) (ks := ks) h2 (by simpa using hl)
    by_cases e : k' = k
    · refine ⟨fun d q => ?_, fun q => ?_⟩
      · rw [findD, if_pos e] at q
        cases q
        exact ⟨v, by rw [List.zip_cons_cons]; exact valV_pos e, h1⟩
      · rw [findD, if_pos e] at q; cases q
    · refine ⟨fun d q => ?_, fun q => ?_⟩
      · rw [findD, if_neg e] at q
        obtain ⟨w, w1, w2⟩ := i1 d q
        exact ⟨w, by rw [List.zip_cons_cons, valV_neg e]; exact w1, w2⟩
      · rw [findD, if_neg e] at q
        rw [List.zip_cons_cons, valV_neg e]
        exact i2 q
end
def keyOf : D → Option Key
  | .int i => some (.inl i)
  | .str x => some (.inr x)
  | _ => none
def keysOf : List D → Option (List Key)
  | [] => some []
  | d :: ds => match keyOf d with
    | some k => (keysOf ds).map (k :: ·)
    | none => none
theorem keyOf_rep {K : PySem.W.Frag} {H : Hp} {P : Pr} {d : D} {v : V} {k : Key} (h : RepW K H d P v) (e : keyOf d = some k) : v = kV k := by
  cases d <;> simp only [keyOf, Option.some.injEq, reduceCtorEq] at e
  · subst e; rw [h.int]; rfl
  · subst e; rw [h.str]; rfl
theorem keysOf_rep {K : PySem.W.Frag} {H : Hp} {P : Pr} : ∀ {ds : List D} {vs : List V} {ks : List Key}, Reps K H ds P vs → keysOf ds = some ks → vs = ks.map kV
  | [], vs, ks, h, e => by simp [keysOf] at e; subst e; exact h.nil_iff
  | d :: ds, vs, ks, h, e => by
    obtain ⟨v, ws, rfl, h1, h2⟩ := h.cons_iff
    unfold keysOf at e
    cases q : keyOf d with
    | none => rw [q] at e; cases e
    | some k =>
      rw [q] at e
      cases r : keysOf ds with
      | none => rw [r] at e; cases e
      | some ks' =>
        rw [r] at e
        cases e
        have i := keysOf_rep h2 r
        have j : v = kV k := by
          cases d <;> simp only [keyOf, Option.some.injEq, reduceCtorEq] at q
          · subst q; unfold Rep at h1; rw [h1]; rfl
          · subst q; unfold Rep at h1; rw [h1]; rfl
        rw [i, j]; rfl
/-- what d holds at the key: none where it holds nothing -/
def getDic : D → D → R (Option D)
  | .dik ks ds, y => match keyOf y with
    | some k => .ok (findD ks ds k)
    | none => .stk
  | .dit ks ds, .tup ys => match keysOf ys with
    | some k => .ok (findD ks ds k)
    | none => .stk
  | _, _ => .stk
section
variable {K : PySem.W.Frag} {H : Hp} {P : Pr}
theorem getDic_rep {dx dy : D} {x y : V} {o : Option D} (rx : RepW K H dx P x) (ry : RepW K H dy P y) (e : getDic dx dy = .ok o) :
    ∃ a r, x = .ref a ∧ DGet H a y r ∧ r.isSome = o.isSome ∧ ∀ d, o = some d → ∃ v, r = some v ∧ Rep K H d P v := by
  unfold getDic at e
  split at e
  · rename_i ks ds
    obtain ⟨a, vs, rfl, hl, rd, rs⟩ := rx
    cases q : keyOf dy with
    | none => rw [q] at e; cases e
    | some k =>
      rw [q] at e
      cases e
      obtain ⟨f1, f2⟩ := findD_rep (k := k) rs hl
      refine ⟨a, valV (ks.zip vs) k, rfl, .inl ⟨_, k, rd, keyOf_rep ry q, rfl⟩, ?_, f1⟩
      cases z : findD ks ds k with
      | none => rw [f2 z]; rfl
      | some d => obtain ⟨v, v1, _⟩ := f1 d z; rw [v1]; rfl
  · rename_i ks ds ys
    obtain ⟨a, vs, rfl, hl, rd, rs⟩ := rx
    obtain ⟨b, us, rfl, h1, h2⟩ := ry.tup
    cases q : keysOf ys with
    | none => rw [q] at e; cases e
    | some k =>
      rw [q] at e
      cases e
      obtain ⟨f1, f2⟩ := findD_rep (k := k) rs hl
      have eu := keysOf_rep h2 q
      subst eu
      refine ⟨a, valV (ks.zip vs) k, rfl, .inr ⟨_, k, b, rd, rfl, h1, rfl⟩, ?_, f1⟩
      cases z : findD ks ds k with
      | none => rw [f2 z]; rfl
      | some d => obtain ⟨v, v1, _⟩ := f1 d z; rw [v1]; rfl
  · cases e
end
def cDGet (a b : EM) : EM := fun ρ => do
  let (h1, ρ1) ← a ρ
  let (h2, ρ2) ← b ρ1
  let x ← (h1.d ρ2).nox
  let y ← (h2.d ρ2).nox
  let o ← (getDic x y).nox
  match o with
  | some z => pure (.vl z, ρ2)
  | none => .stk
def cDIn (neg : Bool) (b a : EM) : EM := fun ρ => do
  let (h2, ρ1) ← b ρ
  let (h1, ρ2) ← a ρ1
  let x ← (h1.d ρ2).nox
  let y ← (h2.d ρ2).nox
  let o ← (getDic x y).nox
  pure (.fr (.bl (if neg = true then !o.isSome else o.isSome)), ρ2)
section
variable {X : Cx} {P0 : Pr} {O W : List Nat} {E : EK} {a b : Expr} {ma mb : EM} {pos : Pos}
theorem ce_dget (hu : X.A.units + 1 < cLine) (ha : CEx X P0 O W E a ma) (hb : CEx X P0 O W E b mb) (hs : NoSl b := by intro _ _; rfl) : CEx X P0 O W E (.Subscript a b pos) (cDGet ma mb) := PE.imp (pe_dget hu ha hb hs) fun σ H Q ⟨ρ, S, h⟩ => by
  refine ⟨ρ, S, h.of_bind.mono fun ⟨h1, ρ1⟩ q x H1 S1 k1 r1 => ⟨ρ1, S1, (q.keep k1).of_bind.mono fun ⟨h2, ρ2⟩ q2 y H2 S2 k2 r2 => ?_⟩⟩
  obtain ⟨dx, e1, q3⟩ := q2.of_nox
  obtain ⟨dy, e2, q4⟩ := q3.of_nox
  obtain ⟨o, e3, q5⟩ := q4.of_nox
  have rx := (r1.keep S1 k2).d S2 e1
  have ry := r2.d S2 e2
  obtain ⟨c, r, rfl, g, _, f⟩ := getDic_rep rx ry e3
  cases o with
  | none => exact q5.elim
  | some z =>
    obtain ⟨v, rfl, rv⟩ := f z rfl
    exact ⟨c, v, rfl, g, q5 v H2 S2 (k1.trans k2) rv⟩
end
section
variable {K : PySem.W.Frag} {P0 : Pr} {O W U : List Nat} {ρ : Y.Env} {σ : L2.St} {H : Hp}
theorem Sim.newO (S : Sim K P0 O W ρ σ H) {i : Nat} {p : Addr} {d : D} {o : HO} (hi : i ∈ O) (hl : i < ρ.length) (hp : H p = none) (ho : isMut (some o)) (r : ∀ P, RepO K (upd H p o) d P (.ref p)) : Sim K P0 O W (ρ.set i (some d)) (σ.set i (some (.ref p))) (upd H p o) := by
  have hs : i < σ.length := Nat.lt_of_lt_of_le hl S.len
  have np : ¬ FA P0 O σ p := fun z => by have := S.dom p z; rw [hp] at this; exact this
  have gs : ∀ {j : Nat} {b : Addr}, j ∈ O → (σ.set i (some (V.ref p)))[j]? = some (some (.ref b)) → (j = i ∧ b = p) ∨ (j ≠ i ∧ σ[j]? = some (some (.ref b))) := fun {j b} hj e => by
    by_cases hij : i = j
    · subst hij
      rw [List.getElem?_set_self hs] at e
      cases e
      exact .inl ⟨rfl, rfl⟩
    · rw [List.getElem?_set_ne hij] at e
      exact .inr ⟨fun z => hij z.symm, e⟩
  have fa : ∀ b, FA P0 O (σ.set i (some (V.ref p))) b → FA P0 O σ b ∨ b = p := fun b z => by
    rcases z with z | ⟨j, hj, e⟩
    · exact .inl (.inl z)
    · rcases gs hj e with ⟨_, e⟩ | ⟨_, h2⟩
      · exact .inr e
      · exact .inl (.inr ⟨j, hj, h2⟩)
  have sm : Same H (upd H p o) := Same.new hp
  refine ⟨S.sub, by simpa using S.len, fun b z => ?_, fun j d' e n => ?_, fun j d' e n => ?_, fun j k a hj hk e1 e2 => ?_, fun a z hz => ?_⟩
  · by_cases hb : b = p
    · rw [hb, upd_same]; exact ho
    · rw [upd_ne hb]
      rcases fa b z with z | z
      · exact S.dom b z
      · exact absurd z hb
  · have hij : i ≠ j := fun z => n (by rw [← z]; exact hi)
    rw [List.getElem?_set_ne hij] at e ⊢
    obtain ⟨v, h1, h2⟩ := S.val j d' e n
    exact ⟨v, h1, h2.mono d' S.dom (fun b o e _ => sm b o e) fun b z => (fa b z).imp id fun e => by rw [e]; exact hp⟩
  · by_cases hij : i = j
    · subst hij
      rw [List.getElem?_set_self hl] at e
      cases e
      exact ⟨_, List.getElem?_set_self hs, r _⟩
    · rw [List.getElem?_set_ne hij] at e ⊢
      obtain ⟨v, h1, h2⟩ := S.own j d' e n
      exact ⟨v, h1, h2.mono S.dom (fun b o e _ => sm b o e) (fun b z => (fa b z).imp id fun e => by rw [e]; exact hp) fun a o _ e => sm a o e⟩
  · rcases gs hj e1 with ⟨a1, a2⟩ | ⟨a2, a3⟩
    · rcases gs hk e2 with ⟨b1, b2⟩ | ⟨b2, b3⟩
      · rw [a1, b1]
      · exact absurd (.inr ⟨k, hk, by rw [← a2]; exact b3⟩) np
    · rcases gs hk e2 with ⟨b1, b2⟩ | ⟨b2, b3⟩
      · exact absurd (.inr ⟨j, hj, by rw [← b2]; exact a3⟩) np
      · exact S.sep j k a hj hk a3 b3
  · obtain ⟨j, hj, e⟩ := z
    rcases gs hj e with ⟨_, e⟩ | ⟨_, h2⟩
    · exact np (.inl (by rw [← e]; exact hz))
    · exact S.sep0 a ⟨j, hj, h2⟩ hz
end
theorem tr_new {K : PySem.W.Frag} {P0 : Pr} {O W U : List Nat} {ρ : Y.Env} {σ : L2.St} {H : Hp} (S : Sim K P0 O W ρ σ H) {i : Nat} {p : Addr} {o : HO} (hi : i ∈ O) (hu : i ∉ U) (hl : i < ρ.length) (hp : H p = none) : Tr O U σ H (σ.set i (some (.ref p))) (upd H p o) where
  keep := fun b u e _ => by rw [upd_ne (ne_of_none e hp)]; exact e
  some := fun b e => by
    by_cases hb : b = p
    · rw [hb, upd_same]; intro z; cases z
    · rw [upd_ne hb]; exact e
  own := fun b ⟨j, hj, e⟩ => by
    by_cases hij : i = j
    · subst hij
      rw [List.getElem?_set_self (Nat.lt_of_lt_of_le hl S.len)] at e
      cases e
      exact .inr hp
    · rw [List.getElem?_set_ne hij] at e
      exact .inl ⟨j, hj, e⟩
  unch := fun j hj => List.getElem?_set_ne fun z => hu (by rw [z]; exact hj)
/-- tup: its keys will be tuples -/
def sDicNew (tup : Bool) (i : Nat) : SM := fun ρ => if i < ρ.length then .ok (.nx, ρ.set i (some (if tup = true then .dit [] [] else .dik [] []))) else .stk
section
variable {X : Cx} {P0 : Pr} {O W U : List Nat} {E : EK}
theorem cs_dicnew {tup : Bool} {i : Nat} {x : Str} {p p2 p3 : Pos} (hN : X.N.Nodup) (hi : i ∈ O := by decide) (hu : i ∉ U := by decide) (hx : X.N[i]? = some x := by rfl) (hl : Loc X.env.scope x := by first | exact Or.inl rfl | exact Or.inr rfl)
    (hf : X.fn x = true ∨ X.env.scope.names.lookup x = some .local := by first | exact .inl rfl | exact .inr rfl)
    (hs : swapsWithSole [.Name x p] (.Dict [] [] p2) p3.line X.env = pure false := by rfl) (hw : swappedStores [.Name x p] (.Dict [] [] p2) X.env = pure none := by rfl) :
    CS X P0 O W U E (.Assign [.Name x p] (.Dict [] [] p2) p3) (sDicNew tup i) := by
  cases tup with
  | false =>
    refine PS.imp (ps_asg pe_dnewK (pg_name hN hx hl hf) hs hw) fun D σ H ⟨ρ, S, h⟩ => fun q hq => ?_
    have h : Res E O σ H (if i < ρ.length then R.ok (Fl.nx, ρ.set i (some (.dik [] []))) else .stk) _ := h
    by_cases hlen : i < ρ.length
    · rw [if_pos hlen] at h
      exact h _ _ (S.newO hi hlen hq trivial fun P => ⟨q, [], rfl, rfl, upd_same, Reps.nil⟩) (tr_new S hi hu hlen hq) (by simp)
    · rw [if_neg hlen] at h; exact h.elim
  | true =>
    refine PS.imp (ps_asg pe_dnewT (pg_name hN hx hl hf) hs hw) fun D σ H ⟨ρ, S, h⟩ => fun q hq => ?_
    have h : Res E O σ H (if i < ρ.length then R.ok (Fl.nx, ρ.set i (some (.dit [] []))) else .stk) _ := h
    by_cases hlen : i < ρ.length
    · rw [if_pos hlen] at h
      exact h _ _ (S.newO hi hlen hq trivial fun P => ⟨q, [], rfl, rfl, upd_same, Reps.nil⟩) (tr_new S hi hu hlen hq) (by simp)
    · rw [if_neg hlen] at h; exact h.elim
end
@[simp] theorem e_dget {a b : EM} {ρ : Y.Env} : cDGet a b ρ = (a ρ >>= fun p => b p.2 >>= fun q => (p.1.d q.2).nox >>= fun x => (q.1.d q.2).nox >>= fun y => (getDic x y).nox >>= fun o => match o with | some z => R.ok (.vl z, q.2) | none => .stk) := by
  unfold cDGet; congr
end Y

set_option Elab.async false
set_option linter.all false
set_option maxRecDepth 100000
namespace Y
open PySem PySem.Spec PyProof.Rows L2
section
variable {κ : Type} [DecidableEq κ]
def setD : List κ → List D → κ → D → List D
  | k' :: ks, d' :: ds, k, d => (if k' = k then d else d') :: setD ks ds k d
  | _, _, _, _ => []
def setV : List κ → List V → κ → V → List V
  | k' :: ks, d' :: ds, k, d => (if k' = k then d else d') :: setV ks ds k d
  | _, _, _, _ => []
theorem setV_len {k : κ} {v : V} : ∀ {ks : List κ} {vs : List V}, ks.length = vs.length → (setV ks vs k v).length = ks.length
  | [], _, _ => rfl
  | _ :: _, [], h => by simp at h
  | _ :: ks, _ :: vs, h => by simp [setV, setV_len (ks := ks) (vs := vs) (by simpa using h)]
theorem set_rep {K : PySem.W.Frag} {H : Hp} {P : Pr} {k : κ} {d : D} {v : V} (r : Rep K H d P v) : ∀ {ks : List κ} {ds : List D} {vs : List V}, Reps K H ds P vs → ks.length = vs.length → Reps K H (setD ks ds k d) P (setV ks vs k v)
  | [], ds, vs, h, hl => by
    have : vs = [] := List.eq_nil_of_length_eq_zero hl.symm
    subst this
    cases ds <;> exact Reps.nil
  | k' :: ks, [], vs, h, hl => by
    have : vs = [] := h.nil_iff
    subst this
    simp at hl
  | k' :: ks, d' :: ds, vs, h, hl => by
    obtain ⟨w, ws, rfl, h1, h2⟩ := h.cons_iff
    have ih := set_rep (k := k) r (ks := ks) h2 (by simpa using hl)
    show Reps K H ((if k' = k then d else d') :: setD ks ds k d) P ((if k' = k then v else w) :: setV ks ws k v)
    by_cases e : k' = k
    · rw [if_pos e, if_pos e]; exact Reps.cons r ih
    · rw [if_neg e, if_neg e]; exact Reps.cons h1 ih
theorem map_put {k : κ} {v : V} : ∀ {ks : List κ} {vs : List V}, (ks.zip vs).map (fun kv => if kv.1 = k then (kv.1, v) else kv) = ks.zip (setV ks vs k v)
  | [], _ => rfl
  | _ :: _, [] => rfl
  | k' :: ks, w :: vs => by
    have ih := map_put (k := k) (v := v) (ks := ks) (vs := vs)
    rw [List.zip_cons_cons, List.map_cons, ih]
    show _ = (k' :: ks).zip ((if k' = k then v else w) :: setV ks vs k v)
    rw [List.zip_cons_cons]
    by_cases e : k' = k
    · rw [if_pos e, if_pos e]
    · rw [if_neg e, if_neg e]
theorem any_zip {k : κ} : ∀ {ks : List κ} {vs : List V}, ks.length = vs.length → ((ks.zip vs).any fun kv => decide (kv.1 = k)) = decide (k ∈ ks)
  | [], vs, h => by
    have : vs = [] := List.eq_nil_of_length_eq_zero h.symm
    subst this
    simp
  | _ :: _, [], h => by simp at h
  | k' :: ks, w :: vs, h => by
    have ih := any_zip (k := k) (ks := ks) (vs := vs) (by simpa using h)
    rw [List.zip_cons_cons, List.any_cons, ih, Bool.eq_iff_iff]
    simp only [Bool.or_eq_true, decide_eq_true_eq, List.mem_cons]
    exact ⟨fun h => h.imp (fun h => h.symm) id, fun h => h.imp (fun h => h.symm) id⟩
theorem zip_snoc {k : κ} {v : V} : ∀ {ks : List κ} {vs : List V}, ks.length = vs.length → ks.zip vs ++ [(k, v)] = (ks ++ [k]).zip (vs ++ [v])
  | [], vs, h => by
    have : vs = [] := List.eq_nil_of_length_eq_zero h.symm
    subst this
    rfl
  | _ :: _, [], h => by simp at h
  | k' :: ks, w :: vs, h => by
    have ih := zip_snoc (k := k) (v := v) (ks := ks) (vs := vs) (by simpa using h)
    rw [List.zip_cons_cons, List.cons_append, ih]
    rfl
def putKs (ks : List κ) (k : κ) : List κ := if k ∈ ks then ks else ks ++ [k]
def putDs (ks : List κ) (ds : List D) (k : κ) (d : D) : List D := if k ∈ ks then setD ks ds k d else ds ++ [d]
def putVs (ks : List κ) (vs : List V) (k : κ) (v : V) : List V := if k ∈ ks then setV ks vs k v else vs ++ [v]
theorem put_zip {k : κ} {v : V} {ks : List κ} {vs : List V} (hl : ks.length = vs.length) : putK (ks.zip vs) k v = (putKs ks k).zip (putVs ks vs k v) ∧ (putKs ks k).length = (putVs ks vs k v).length := by
  unfold putK putKs putVs
  rw [any_zip hl]
  by_cases c : k ∈ ks
  · rw [if_pos (decide_eq_true c), if_pos c, if_pos c, map_put]
    exact ⟨rfl, (setV_len hl).symm⟩
  · rw [if_neg (by simpa using c), if_neg c, if_neg c, zip_snoc hl]
    exact ⟨rfl, by simp [hl]⟩
theorem put_reps {K : PySem.W.Frag} {H : Hp} {P : Pr} {k : κ} {d : D} {v : V} {ks : List κ} {ds : List D} {vs : List V} (r : Rep K H d P v) (h : Reps K H ds P vs) (hl : ks.length = vs.length) : Reps K H (putDs ks ds k d) P (putVs ks vs k v) := by
  unfold putDs putVs
  by_cases c : k ∈ ks
  · rw [if_pos c, if_pos c]; exact set_rep r h hl
  · rw [if_neg c, if_neg c]; exact h.append (Reps.cons r Reps.nil)
end
def putDic : D → D → D → R D
  | .dik ks ds, y, d => match keyOf y with
    | some k => if szOk (ks.length + 1) = true then .ok (.dik (putKs ks k) (putDs ks ds k d)) else .stk
    | none => .stk
  | .dit ks ds, .tup ys, d => match keysOf ys with
    | some k => if szOk (ks.length + 1) = true then .ok (.dit (putKs ks k) (putDs ks ds k d)) else .stk
    | none => .stk
  | _, _, _ => .stk
def dicAt (i : Nat) (ρ : Y.Env) : R D := match ρ[i]? with
  | some (some (.dik ks ds)) => .ok (.dik ks ds)
  | some (some (.dit ks ds)) => .ok (.dit ks ds)
  | _ => .stk
def sDPutS (i : Nat) (mk mv : EM) : SM := fun ρ => do
  let (h, ρ1) ← mv ρ
  let d ← h.v.nox
  let _ ← (dicAt i ρ1).nox
  let (h2, ρ2) ← mk ρ1
  let k ← h2.v.nox
  let x ← (dicAt i ρ2).nox
  let z ← (putDic x k d).nox
  pure (.nx, ρ2.set i (some z))
section
variable {K : PySem.W.Frag} {X : Cx} {P0 : Pr} {O W U : List Nat} {E : EK} {e k : Expr} {ma mk : EM}
theorem dicAt_ok {i : Nat} {ρ : Y.Env} {x : D} (h : dicAt i ρ = .ok x) : ρ[i]? = some (some x) := by
  unfold dicAt at h
  split at h
  · rename_i q; cases h; exact q
  · rename_i q; cases h; exact q
  · cases h
theorem dicAt_ref {ρ : Y.Env} {σ : L2.St} {H : Hp} (S : Sim K P0 O W ρ σ H) {i : Nat} {x : D} (hi : i ∈ O) (h : dicAt i ρ = .ok x) : ∃ a, σ[i]? = some (some (.ref a)) := by
  have q := dicAt_ok h
  obtain ⟨v, h1, h2⟩ := S.own i x q hi
  cases x with
  | dik ks ds => obtain ⟨a, vs, rfl, _⟩ := h2; exact ⟨a, h1⟩
  | dit ks ds => obtain ⟨a, vs, rfl, _⟩ := h2; exact ⟨a, h1⟩
  | _ => unfold dicAt at h; rw [q] at h; cases h
theorem cs_dput {i : Nat} {x : Str} {p sp pos : Pos} (hu : X.A.units + 1 < cLine) (h : CEx X P0 O W E e ma) (hk : CEx X P0 O W E k mk) (hi : i ∈ O := by decide) (hx : X.N[i]? = some x := by rfl) (hv : Vis X.env.scope x := by first | exact Or.inl rfl | exact Or.inr (Or.inl rfl) | exact Or.inr (Or.inr rfl)) (hd : (x == ("__debug__" : Str)) = false := by decide) (hcd : (x == ("__classdict__" : Str)) = false := by decide)
    (hs : swapsWith e (some (.Subscript (.Name x p) k sp)) pos.line X.env = pure false := by rfl) :
    CS X P0 O W U E (.Assign [.Subscript (.Name x p) k sp] e pos) (sDPutS i mk ma) := PS.imp (ps_dput hu (pe_var (i := i) hx hv hd hcd) hk h hs) fun D σ H ⟨ρ, S, h⟩ => by
  refine ⟨ρ, S, (h.of_bind.down S.sub).mono fun ⟨hd, ρ1⟩ q v H1 S1 k1 r1 => ?_⟩
  obtain ⟨d, e1, q1⟩ := q.of_nox
  obtain ⟨x0, e0, q2⟩ := q1.of_nox
  obtain ⟨l, h1⟩ := dicAt_ref S1 hi e0
  refine ⟨.ref l, h1, ρ1, S1, ((q2.of_bind.down S1.sub).keep k1).mono fun ⟨hd2, ρ2⟩ q3 w H2 S2 k2 r2 => ?_⟩
  obtain ⟨dk, e2, q4⟩ := q3.of_nox
  obtain ⟨x1, e3, q5⟩ := Res.of_nox (show Res E O σ H ((dicAt i ρ2).nox >>= _) _ from q4)
  obtain ⟨z, e4, q6⟩ := Res.of_nox (show Res E O σ H ((putDic x1 dk d).nox >>= _) _ from q5)
  have rk := r2.v e2
  have rv := S1.rep k2 (r1.v e1)
  obtain ⟨v1, g1, g2⟩ := S2.own i x1 (dicAt_ok e3) hi
  rw [h1] at g1
  cases g1
  have pa : FA P0 O σ l := .inr ⟨i, hi, h1⟩
  have up : ∀ (o : HO) b u, H2 b = some u → ¬ FA P0 O σ b → upd H2 l o b = some u := fun o b u e n => by rw [upd_ne fun z => n (by rw [z]; exact pa)]; exact e
  unfold putDic at e4
  split at e4
  · rename_i ks ds
    obtain ⟨a, vs, ea, hl, hH, rs⟩ := g2
    cases ea
    cases qk : keyOf dk with
    | none => rw [qk] at e4; cases e4
    | some kk =>
      rw [qk] at e4
      simp only at e4
      split at e4
      · rename_i zs
        cases e4
        obtain ⟨pz, pl⟩ := put_zip (k := kk) (v := v) hl
        have ew : w = kV kk := keyOf_rep (rk.weak S2.dom) qk
        subst ew
        refine ⟨l, _, rfl, DPut.k hH (by rw [List.length_zip, ← hl, Nat.min_self]; exact of_decide_eq_true zs), ?_⟩
        rw [pz]
        exact q6 σ _ (S2.ownW hi h1 trivial ⟨l, _, rfl, pl, upd_same, (put_reps rv rs hl).mono _ S2.dom (up _) fun b z => .inl z⟩) (Tr.ownW S.sub (k1.trans k2) hi h1) rfl
      · cases e4
  · rename_i ks ds ys
    obtain ⟨a, vs, ea, hl, hH, rs⟩ := g2
    cases ea
    cases qk : keysOf ys with
    | none => rw [qk] at e4; cases e4
    | some kk =>
      rw [qk] at e4
      simp only at e4
      split at e4
      · rename_i zs
        cases e4
        obtain ⟨pz, pl⟩ := put_zip (k := kk) (v := v) hl
        unfold Rep at rk
        obtain ⟨b, us, rfl, b1, b2⟩ := rk
        have eu := keysOf_rep b2 qk
        subst eu
        refine ⟨l, _, rfl, DPut.t hH b1 (by rw [List.length_zip, ← hl, Nat.min_self]; exact of_decide_eq_true zs), ?_⟩
        rw [pz]
        exact q6 σ _ (S2.ownW hi h1 trivial ⟨l, _, rfl, pl, upd_same, (put_reps rv rs hl).mono _ S2.dom (up _) fun b z => .inl z⟩) (Tr.ownW S.sub (k1.trans k2) hi h1) rfl
      · cases e4
  · cases e4
end
end Y

set_option Elab.async false
set_option linter.all false
set_option maxRecDepth 100000
namespace Y
open PySem PySem.Spec PyProof.Rows L2
/-- a flow, or the class of a refusal -/
abbrev TM := Env → R ((Fl ⊕ Str) × Env)
abbrev XM := Env → R ((Hd ⊕ Str) × Env)
def sTry (i : Nat) (es : List Str) (m : TM) (h : Str → SM) : SM := fun ρ => do
  let (x, ρ1) ← (m ρ).nox
  match x with
  | .inl f => pure (f, ρ1)
  | .inr c => if c ∈ es ∧ i < ρ1.length then (do
      let (f, ρ2) ← (h c (ρ1.set i none)).nox
      pure (f, ρ2.set i none)) else .stk
/-- what an own class of refusals bears -/
structure ErrZ (K : PySem.W.Frag) (mg : Str → Option Value) (c : Str) : Prop where
  ex : ∃ C, mg c = some (.ref C) ∧ ExcC K C
/-- isinstance(e, x) of the classes es -/
structure IsF (K : PySem.W.Frag) (mg : Str → Option Value) (es : List Str) (x : Str) (f : Str → Bool) : Prop where
  ex : ∃ u, mg x = some (.ref u) ∧ ∀ c ∈ es, ∃ C, mg c = some (.ref C) ∧ PySem.W.kitOne K (.ref C) (.ref u) = some (f c)
/-- except x takes all of the classes es -/
structure CatF (K : PySem.W.Frag) (mg : Str → Option Value) (es : List Str) (x : Str) : Prop where
  ex : ∃ u, mg x = some (.ref u) ∧ ∀ c ∈ es, ∃ C, mg c = some (.ref C) ∧ PySem.W.exmOne K (.ref C) (.ref u) = some true
theorem call_isP {X : Cx} {a D : Addr} {oe : Obj} (Z : ExcC X.K D) (hz : Zc (.ref D) none oe) (hf : ∃ vs, oe.data = .fields vs) (hp : (a, oe) ∈ X.pn) : CallR X (.builtin "isinstance") (rIsE X.K D a) := by
  intro pins s σ H xs us Q I r q
  rcases q with ⟨c, cv, b, rfl, hc, kb, q⟩
  rcases r with _ | ⟨ra, r⟩
  rcases r with _ | ⟨rb, r⟩
  rcases r with _ | _
  have eu := hc _ rb
  subst eu
  obtain rfl := ra
  have g := (I.pin (a, oe) (List.mem_append_left _ hp)).1
  rcases hf with ⟨fs, hd⟩
  rcases oe with ⟨oc, od, oda, osl⟩
  rcases hz with ⟨z1, z2⟩
  dsimp only at z1 z2 hd
  subst z1; subst z2; subst hd
  have J : PySem.W.InstAt s.heap a ⟨.ref D, none, .fields fs, osl⟩ D none := ⟨g, rfl, rfl, trivial⟩
  exact PySem.W.kia_one (PySem.W.handS_kitx_exc Z.hg Z.hk Z.hs Z.hd Z.ha Z.hn Z.ht Z.hm) I.kIn J kb (fun y => nomatch y) fun tk => ⟨V.bl b, H, I.kept (t' := tk) fun _ _ y => y, rfl, q⟩
section
variable {X : Cx} {P0 : Pr} {O W U : List Nat} {E : EK} {XE : XK} {a b c e : Expr} {es : List Expr} {ma mb mc : EM} {ms : AM} {pos : Pos} {k np : Nat} {name : Str} {st : Stmt} {sts : List Stmt} {m n : SM}
def tX (K : PySem.W.Frag) (mg : Str → Option Value) (P0 : Pr) (O W : List Nat) (m : XM) (Ws : WX) : TE := fun σ H Q => ∃ ρ, Sim K P0 O W ρ σ H ∧
  Res E00 W σ H (m ρ) fun a => match a.1 with
    | .inl h => ∀ v H', Sim K P0 O W a.2 σ H' → Keep W σ H H' → HdR K P0 O H σ H' h v → Q v H'
    | .inr c => ∀ H', Sim K P0 O W a.2 σ H' → Keep W σ H H' → ∃ C, mg c = some (.ref C) ∧ Ws (.ref C) none σ H'
def tTb (K : PySem.W.Frag) (mg : Str → Option Value) (P0 : Pr) (O W U : List Nat) (m : TM) (Ws : WX) : TS := fun D σ H => ∃ ρ, Sim K P0 O W ρ σ H ∧
  Res E00 O σ H (m ρ) fun a => match a.1 with
    | .inl f => ∀ σ' H', Sim K P0 O W a.2 σ' H' → Tr O U σ H σ' H' → σ'.length = σ.length → Fin K P0 O H D σ' H' f
    | .inr c => ∀ σ' H', Sim K P0 O W a.2 σ' H' → Tr O U σ H σ' H' → σ'.length = σ.length → ∃ C, mg c = some (.ref C) ∧ Ws (.ref C) none σ' H'
/-- f(..) that may refuse -/
def cXcall (g : List D → R Hd) (m : AM) : XM := fun ρ => do
  let (hs, ρ1) ← m ρ
  let ds ← (vsOf hs).nox
  match g ds with
  | .ok (.ow _) => .stk
  | .ok h => pure (.inl h, ρ1)
  | .er c [] => pure (.inr c, ρ1)
  | _ => .stk
theorem tX_call {g : List D → R Hd} {Ws : WX} (hl : ALen ms np) (σ : St) (H : Hp) (Q : VK) (h : tX X.K X.mg P0 O W (cXcall g ms) Ws σ H Q) :
    tCallS (spD X.K X.mg np [] (pureF g)) (WE Ws) (tMs X.K P0 O W E00 ms) σ H Q := by
  obtain ⟨ρ, S, h⟩ := h
  refine ⟨ρ, S, ?_⟩
  cases em : ms ρ with
  | stk => unfold cXcall at h; rw [em] at h; exact h.elim
  | er c ds => unfold cXcall at h; rw [em] at h; exact h
  | ok p =>
    obtain ⟨hs, ρ1⟩ := p
    unfold cXcall at h
    rw [em] at h
    intro vs H1 S1 k1 r1
    obtain ⟨ds, e1, q⟩ := Res.of_nox (show Res E00 W σ H ((vsOf hs).nox >>= _) _ from h)
    have rr := HdRs.vs r1 e1
    have lv : vs.length = np := by rw [HdRs.len r1]; exact hl ρ hs ρ1 em
    refine ⟨lv, ds, FA P0 O σ, sim_args S1.dom rr, by rw [← rr.length]; exact lv, ?_⟩
    unfold pureF
    cases eg : g ds with
    | stk => rw [eg] at q; exact q.elim
    | er c xs =>
      rw [eg] at q
      cases xs with
      | cons x xs => exact q.elim
      | nil =>
        have q : ∀ H', Sim X.K P0 O W ρ1 σ H' → Keep W σ H H' → ∃ C, X.mg c = some (.ref C) ∧ Ws (.ref C) none σ H' := q
        exact fun H' kp => ⟨rfl, q H' (S1.same kp.nil) (k1.trans (Keep.same kp.nil))⟩
    | ok hd =>
      rw [eg] at q
      intro v H2 k2 _ r2
      have sm := Keep.nil k2
      cases hd with
      | ow j => exact q.elim
      | fr d =>
        have q : ∀ v H', Sim X.K P0 O W ρ1 σ H' → Keep W σ H H' → HdR X.K P0 O H σ H' (.fr d) v → Q v H' := q
        exact q v H2 (S1.same sm) (k1.trans (Keep.same sm)) ⟨r2.1.less (fun b z => (S1.same sm).dom b ((FA_nil b).mp z)) fun b z => .inl z, fun m a e => Classical.byContradiction fun z => k1.some a z (r2.2 m a e)⟩
      | vl d =>
        have q : ∀ v H', Sim X.K P0 O W ρ1 σ H' → Keep W σ H H' → HdR X.K P0 O H σ H' (.vl d) v → Q v H' := q
        exact q v H2 (S1.same sm) (k1.trans (Keep.same sm)) (Rep.less (fun b z => (S1.same sm).dom b ((FA_nil b).mp z)) r2 fun b z => .inl z)
theorem cx_call {g : List D → R Hd} {p : Pos} {Ws : WX} (G : Glo X.prog X.w X.K X.mg X.base name k np [] (pureF g)) (tk : L2N.Takes X Ws) (hr : Room k X.A) (ha : CA X P0 O W E00 (e :: es) ms) (hl : ALen ms np) (hg : Gl X name := by rfl) (hdb : (name == ("__debug__" : Str)) = false := by decide)
    (he : starEach (e :: es) X.env = (false, eval e X.env) :: starEach es X.env := by rfl) (hpl : (backTo pos (starEach es X.env)).any (·.1) = false := by rfl) : PE X (.Call (.Name name p) (e :: es) [] pos) (tX X.K X.mg P0 O W (cXcall g ms) Ws) := by
  obtain ⟨f, fd, ps, hm, hk, hb, _, F⟩ := G.ex
  exact PE.imp (pe_callS (E := WE Ws) F hr hg hm hk hb (fun σ => L2N.passAt tk σ) ha hdb he hpl) fun σ H Q h => tX_call hl σ H Q h
def tbExpr (m : XM) : TM := fun ρ => do
  let (x, ρ1) ← m ρ
  match x with
  | .inl _ => pure (.inl .nx, ρ1)
  | .inr c => pure (.inr c, ρ1)
theorem cb_expr {xm : XM} {Ws : WX} (h : PE X e (tX X.K X.mg P0 O W xm Ws)) (hs : swapsWith e none pos.line X.env = pure false := by rfl) : PS X (.Expr e pos) (tTb X.K X.mg P0 O W U (tbExpr xm) Ws) := PS.imp (ps_expr h hs) fun D σ H ⟨ρ, S, h⟩ =>
  ⟨ρ, S, (h.of_bind.down S.sub).mono fun ⟨x, ρ1⟩ q => by
    cases x with
    | inl hd => exact fun v H1 S1 k1 r1 => q σ H1 S1 (Tr.of S.sub k1) rfl
    | inr c => exact fun H1 S1 k1 => q σ H1 S1 (Tr.of S.sub k1) rfl⟩
theorem cb_one {Ws : WX} {m : TM} (h : PS X st (tTb X.K X.mg P0 O W U m Ws)) : PSs X [st] (tTb X.K X.mg P0 O W U m Ws) := pss_one h
/-- the error lies in slot i -/
def tZ (K : PySem.W.Frag) (P0 : Pr) (O W U : List Nat) (i : Nat) (a : Addr) (m : SM) : TS := fun D σ H => σ[i]? = some (some (.ref a)) ∧ tSt K P0 O W U E00 m D σ H
def tZe (K : PySem.W.Frag) (P0 : Pr) (O W : List Nat) (i : Nat) (a : Addr) (m : EM) : TE := fun σ H Q => σ[i]? = some (some (.ref a)) ∧ tM K P0 O W E00 m σ H Q
variable {i : Nat} {ad : Addr}
theorem cz_one (h : PS X st (tZ X.K P0 O W U i ad m)) : PSs X [st] (tZ X.K P0 O W U i ad m) := pss_one h
/-- isinstance(e, x) -/
theorem cz_isi {C : Addr} {oe : Obj} {cn x nm : Str} {f : Str → Bool} {cl : List Str} {p q q2 : Pos} (Z : ErrZ X.K X.mg cn) (F : IsF X.K X.mg cl x f) (hc : cn ∈ cl) (hC : X.mg cn = some (.ref C)) (hz : Zc (.ref C) none oe) (hf : ∃ vs, oe.data = .fields vs) (hp : (ad, oe) ∈ X.pn) (hm : X.mg "isinstance" = none)
    (hN : X.N[i]? = some nm := by rfl) (hv : Vis X.env.scope nm := by first | exact Or.inl rfl | exact Or.inr (Or.inl rfl)) (hd : (nm == ("__debug__" : Str)) = false := by decide) (hcd : (nm == ("__classdict__" : Str)) = false := by decide)
    (hg : Gl X "isinstance" := by rfl) (hg2 : Gl X x := by rfl) (hdb : (x == ("__debug__" : Str)) = false := by decide)
    (he : starEach [.Name nm q, .Name x q2] X.env = (false, eval (.Name nm q) X.env) :: starEach [.Name x q2] X.env := by rfl) (hpl : (backTo pos (starEach [.Name x q2] X.env)).any (·.1) = false := by rfl) (he2 : starEach [.Name x q2] X.env = (false, eval (.Name x q2) X.env) :: starEach [] X.env := by rfl) :
    PE X (.Call (.Name "isinstance" p) [.Name nm q, .Name x q2] [] pos) (tZe X.K P0 O W i ad (cC (.bl (f cn)))) := by
  obtain ⟨C', hC', Zc'⟩ := Z.ex
  rw [hC] at hC'
  cases hC'
  obtain ⟨u, hu, hk⟩ := F.ex
  refine PE.imp (pe_callB (call_isP Zc' hz hf hp) hg hm bo_isinstance (pa_cons (pe_var (i := i) hN hv hd hcd) (pa_cons (pe_glob (v := .ref u) hg2 hu rfl hdb) pa_nil he2) he) (by decide) (by decide) he hpl) fun σ H Q ⟨e, ρ, S, q⟩ => ?_
  obtain ⟨C2, hC2, hk⟩ := hk cn hc
  rw [hC] at hC2
  cases hC2
  exact ⟨.ref ad, e, .ref u, .ref u, f cn, rfl, fun _ z => z, hk, q (.bl (f cn)) H S .refl ⟨by unfold Rep; rfl, fun z => by cases z⟩⟩
theorem cz_asg {tm : GM} {is : List Nat} (h : PE X e (tZe X.K P0 O W i ad ma)) (hg : CG X P0 O W tg tm is) (ho : ∀ i ∈ is, i ∉ O := by decide) (hu : ∀ i ∈ is, i ∉ U := by decide) (hs : swapsWithSole [tg] e pos.line X.env = pure false := by rfl) (hw : swappedStores [tg] e X.env = pure none := by rfl) (h1 : (assignEach [tg] X.env).map (·.2) = [assign tg X.env] := by rfl) : PS X (.Assign [tg] e pos) (tZ X.K P0 O W U i ad (sAsg ma tm)) :=
  PS.imp (ps_asg h hg hs hw h1) fun D σ H ⟨e, ρ, S, h⟩ => by
    refine ⟨e, ρ, S, (h.of_bind.down S.sub).mono fun ⟨hd, ρ1⟩ q v H1 S1 k1 r1 => ?_⟩
    obtain ⟨d, e1, q⟩ := q.of_nox
    obtain ⟨ρ2, e2, q⟩ := q.of_nox
    exact ⟨ρ1, d, ρ2, S1, r1.v e1, e2, fun σ' S' l h' => q σ' H1 S' ((Tr.of S.sub k1).trans ⟨fun _ _ e _ => e, fun _ e => e, fun b z => .inl ((OA_of (fun i hi => h' i fun y => ho i y hi) b).mp z), fun j hj => h' j fun y => hu j y hj⟩) l⟩
end
section
variable {K : PySem.W.Frag} {P0 : Pr} {O W U : List Nat} {ρ : Env} {σ : St} {H : Hp}
theorem Sim.unset (S : Sim K P0 O W ρ σ H) {i : Nat} (hi : i ∉ O) (x : Option V) : Sim K P0 O W (ρ.set i none) (σ.set i x) H := by
  have no : ∀ {j : Nat} {d : D}, (ρ.set i none)[j]? = some (some d) → i ≠ j ∧ ρ[j]? = some (some d) := fun {j d} e => by
    by_cases hj : i = j
    · subst hj
      have h1 : i < ρ.length := by have := (List.getElem?_eq_some_iff.mp e).1; simpa using this
      rw [List.getElem?_set_self h1] at e; cases e
    · rw [List.getElem?_set_ne hj] at e; exact ⟨hj, e⟩
  refine S.move (by simpa using S.len) (fun j hj => ?_) (fun j hj d' e => (no e).2) fun j d' e n => ?_
  · exact List.getElem?_set_ne (fun (e : i = j) => hi (by rw [e]; exact hj))
  · obtain ⟨h1, h2⟩ := no e
    rw [List.getElem?_set_ne h1]
    exact S.val j d' h2 n
theorem Tr.unset {i : Nat} {x : Option V} (hi : i ∉ O) (hu : i ∉ U) : Tr O U σ H (σ.set i x) H :=
  ⟨fun _ _ e _ => e, fun _ e => e, fun b ⟨j, hj, z⟩ => .inl ⟨j, hj, by rwa [List.getElem?_set_ne fun (y : i = j) => hi (y ▸ hj)] at z⟩, fun j hj => List.getElem?_set_ne fun (y : i = j) => hu (y ▸ hj)⟩
theorem Tr.fewer {U' : List Nat} {σ' : St} {H' : Hp} (t : Tr O U σ H σ' H') (h : ∀ i ∈ U', i ∈ U) : Tr O U' σ H σ' H' := ⟨t.keep, t.some, t.own, fun i hi => t.unch i (h i hi)⟩
end
section
variable {X : Cx} {P0 : Pr} {O W U : List Nat} {E : EK}
theorem PSs.exi {sts : List Stmt} {α : Type} {p : α → Prop} {t : α → TS} (h : ∀ a, p a → PSs X sts (t a)) : PSs X sts (fun D σ H => ∃ a, p a ∧ t a D σ H) := ⟨fun pins s σ H D I ⟨a, pa, q⟩ => (h a pa).run pins s σ H D I q⟩
/-- try: body; except x as n: suite -/
theorem cs_try {tm : TM} {h : Str → SM} {i : Nat} {cl : List Str} {x n : Str} {body suite : List Stmt} {b₀ : Stmt} {np pos pos' : Pos} (hN : X.N.Nodup) (hcat : CatF X.K X.mg cl x) (hi : X.N[i]? = some n)
    (hb : ∀ (Ws : WX) (pn : List (Addr × Obj)) (xe : Value → Shared → Prop), L2N.Takes (X.tr pn xe) Ws → PSs (X.tr pn xe) body (tTb X.K X.mg P0 O W U tm Ws))
    (hsu : ∀ (a : Addr) (oe : Obj) (C : Addr) (cn : Str) (pn : List (Addr × Obj)), X.mg cn = some (.ref C) → cn ∈ cl → L2N.Zn (.ref C) none oe → (∃ vs, oe.data = .fields vs) → PSs (X.suite a ((a, oe) :: pn)) (b₀ :: suite) (tZ X.K P0 O W (i :: U) i a (h cn)))
    (hio : i ∉ O := by decide) (hiu : i ∉ U := by decide) (hs : X.stack = X.env :: X.outer := by rfl) (hf : X.env.frame = some X.env.locals := by rfl) (hln : X.env.kindOf n = some .local := by rfl) (hg : Gl X x := by rfl) (hdb : (x == ("__debug__" : Str)) = false := by decide) (tk : L2N.Takes X fun _ _ _ _ => False := by exact fun _ _ z => by rcases z with ⟨_, _, _, _, _, _, _, _, _, _, _, _, _, _, _, _, y⟩; exact y.elim) :
    CS X P0 O W U E (.Try body [.ExceptHandler (some (.Name x np)) (some n) (b₀ :: suite) pos'] [] [] pos) (sTry i cl tm h) := by
  obtain ⟨u, hu, hk⟩ := hcat.ex
  refine PS.imp (L2N.ps_try_as (i := i) (c := .ref u) (Wout := fun _ _ _ _ => False) (ts := fun a cls d D σ H => ∃ q : Addr × Str, (cls = .ref q.1 ∧ d = none ∧ X.mg q.2 = some (.ref q.1) ∧ q.2 ∈ cl) ∧ tZ X.K P0 O W (i :: U) i a (h q.2) D σ H) hs hf hN hi hln ⟨hg, hdb, .inl hu⟩ tk (fun Ws pn xe t _ => hb Ws pn xe t) (fun a oe cls d pn hz hfl => PSs.exi fun q hq => ?_)) fun D σ H ⟨ρ, S, r⟩ => ?_
  · obtain ⟨rfl, rfl, h1, h2⟩ := hq
    exact hsu a oe q.1 q.2 pn h1 h2 hz hfl
  · obtain ⟨⟨y, ρ1⟩, em, r⟩ := Res.of_nox r
    refine ⟨ρ, S, ?_⟩
    rw [em]
    cases y with
    | inl f => exact r
    | inr c =>
      have r : Res E O σ H (if c ∈ cl ∧ i < ρ1.length then (do
        let (f, ρ2) ← (h c (ρ1.set i none)).nox
        pure (f, ρ2.set i none)) else .stk) _ := r
      by_cases hc : c ∈ cl ∧ i < ρ1.length
      · rw [if_pos hc] at r
        intro σ1 H1 S1 t1 l1
        obtain ⟨C, hC, hm⟩ := hk c hc.1
        refine ⟨C, hC, true, hm, fun _ a na => ⟨(C, c), ⟨rfl, rfl, hC, hc.1⟩, List.getElem?_set_self (Nat.lt_of_lt_of_le hc.2 S1.len), ρ1.set i none, S1.unset hio _, ?_⟩, fun z => Bool.noConfusion z⟩
        obtain ⟨⟨f, ρ2⟩, eh, r0⟩ := Res.of_nox r
        · rw [eh]
          intro σ2 H2 S2 t2 l2
          have t3 : Tr O U σ H σ2 H2 := t1.trans ((Tr.unset hio hiu).trans (t2.fewer fun j hj => List.mem_cons_of_mem _ hj))
          have l3 : σ2.length = σ.length := by rw [l2, List.length_set, l1]
          have q := r0 (σ2.set i none) H2 (S2.unset hio none) (t3.trans (Tr.unset hio hiu)) (by rw [List.length_set, l3])
          have tt : Tr O (i :: U) σ1 H1 σ1 H1 := .refl
          cases f with
          | nx => exact q
          | bk => exact q
          | ct => exact q
          | rt hd => 
            intro v r
            refine q v ?_
            have r := r.back (Hs' := H) t1.some
            have fa : ∀ b, FA P0 O (σ2.set i none) b → FA P0 O σ2 b := fun b z => z.imp id fun ⟨j, hj, e⟩ => ⟨j, hj, by rwa [List.getElem?_set_ne fun (y : i = j) => hio (y ▸ hj)] at e⟩
            cases hd with
            | fr d => exact ⟨r.1.less S2.dom fa, r.2⟩
            | vl d => exact Rep.less S2.dom r fa
            | ow j => exact ⟨r.1, by rw [List.getElem?_set_ne fun (y : i = j) => hio (y ▸ r.1)]; exact r.2⟩
      · rw [if_neg hc] at r; exact r.elim
end
end Y

set_option Elab.async false
set_option linter.all false
set_option maxRecDepth 100000
namespace Y
open PySem PySem.Spec PyProof.Rows L2
/-- x stands for all refusals, or is the class -/
def isErr (x c : Str) : Bool := x == c || x == "NetError"
theorem all_nil {α : Type} {p : α → Prop} : ∀ c ∈ ([] : List α), p c := fun _ h => nomatch h
theorem all_cons {α : Type} {p : α → Prop} {c : α} {cl : List α} (h : p c) (t : ∀ c ∈ cl, p c) : ∀ x ∈ c :: cl, p x := List.forall_mem_cons.mpr ⟨h, t⟩
theorem isi_of {o : Option Bool} {b x : Bool} (h : o = some b) (e : b = x := by decide +kernel) : o = some x := e ▸ h
theorem kit_own {K : PySem.W.Frag} {C X : Addr} {b : Bool} (hs : PySem.W.subIn K (.ref C) (.ref C) = some true) (hd : PySem.W.hasDictIn K X = true) (ht : PySem.W.typeIn K (.ref X) = some (.type "type")) (h : PySem.W.subIn K (.ref C) (.ref X) = some b) : PySem.W.kitOne K (.ref C) (.ref X) = some b := by
  unfold PySem.W.kitOne
  by_cases e : C = X
  · subst e
    rw [hs] at h
    cases h
    rw [if_pos (by simp)]
  · rw [if_neg (by simpa using e)]
    obtain ⟨cd, hc, _⟩ := PySem.W.any_some hd
    show (if ((PySem.W.clsIn K X).isSome && PySem.W.typeIn K (.ref X) == some (.type "type")) = true then PySem.W.subIn K (.ref C) (.ref X) else none) = some b
    rw [hc, ht, if_pos (by simp)]
    exact h
variable {ρ : Y.Env}
@[simp] theorem e_try {i : Nat} {es : List Str} {m : TM} {h : Str → SM} : sTry i es m h ρ = ((m ρ).nox >>= fun p => match p.1 with | .inl f => R.ok (f, p.2) | .inr c => if c ∈ es ∧ i < p.2.length then ((h c (p.2.set i none)).nox >>= fun q => R.ok (q.1, q.2.set i none)) else .stk) := by
  unfold sTry; congr
@[simp] theorem e_xcall {g : List D → R Hd} {m : AM} : cXcall g m ρ = (m ρ >>= fun p => (vsOf p.1).nox >>= fun ds => match g ds with | .ok (.ow _) => .stk | .ok h => R.ok (.inl h, p.2) | .er c [] => R.ok (.inr c, p.2) | _ => .stk) := id rfl
@[simp] theorem e_tbexpr {m : XM} : tbExpr m ρ = (m ρ >>= fun p => match p.1 with | .inl _ => R.ok (.inl .nx, p.2) | .inr c => R.ok (.inr c, p.2)) := id rfl
end Y

set_option Elab.async false
set_option linter.all false
set_option maxRecDepth 100000
namespace Y
open PySem PySem.Spec PyProof.Rows L2
def DicU : HO → Prop
  | .dK _ => True
  | .dT _ => True
  | _ => False
theorem Rd.only {H : Hp} {a b : Addr} {u o : HO} (hu : DicU u) (r : Rd H a u) (e : H b = Option.some o) (n1 : ¬ DicU o) (n2 : ∀ x w, o = .frz x w → ¬ DicU w) : b ≠ a := by
  rintro rfl
  rcases r with r | ⟨x, r⟩
  · rw [e] at r; cases r; exact n1 hu
  · rw [e] at r; cases r; exact n2 _ _ rfl hu
section
variable {K : PySem.W.Frag} {H H' : Hp} {a : Addr} {u : HO}
theorem Rd.move (hu : DicU u) (k : ∀ b, b ≠ a → H' b = H b) (r : Rd H a u) (r' : Rd H' a u) {b : Addr} {o : HO} (n2 : ∀ x w, o ≠ .frz x w) (h : Rd H b o) : Rd H' b o := by
  by_cases e : b = a
  · subst e
    have : o = u := by
      rcases r with r | ⟨x, r⟩ <;> rcases h with h | ⟨y, h⟩ <;> rw [r] at h <;> cases h <;> first | rfl | exact absurd rfl (n2 _ _) | exact hu.elim
    rw [this]; exact r'
  · rcases h with h | ⟨y, h⟩
    · exact .inl (by rw [k b e]; exact h)
    · exact .inr ⟨y, by rw [k b e]; exact h⟩
theorem TabS.rd (hu : DicU u) (k : ∀ b, b ≠ a → H' b = H b) (r : Rd H a u) {p b : Addr} {q : Str} (t : TabP H p q b) : TabP H' p q b := by
  obtain ⟨e, ps, h1, h2, h3⟩ := t
  refine ⟨e, ps, ?_, h2, fun pos cv hc => ?_⟩
  · rw [k b (Rd.only hu r h1 (fun z => z) fun x w z => by cases z)]
    exact h1
  · obtain ⟨c, e1, e2⟩ := h3 pos cv hc
    refine ⟨c, e1, ?_⟩
    rw [k c (Rd.only hu r e2 (fun z => z) fun x w z => by unfold LamX.CodeO at z; cases z)]
    exact e2
mutual
theorem Rep.rd (hu : DicU u) (k : ∀ b, b ≠ a → H' b = H b) (r : Rd H a u) (r' : Rd H' a u) : ∀ {d : D} {P : Pr} {v : V}, Rep K H d P v → Rep K H' d P v
  | .non, _, _, h => by unfold Rep at h ⊢; exact h
  | .bl _, _, _, h => by unfold Rep at h ⊢; exact h
  | .int _, _, _, h => by unfold Rep at h ⊢; exact h
  | .str _, _, _, h => by unfold Rep at h ⊢; exact h
  | .tup ds, P, v, h => by
    unfold Rep at h ⊢
    obtain ⟨b, vs, e, h1, h2⟩ := h
    exact ⟨b, vs, e, by rw [k b (Rd.only hu r h1 id fun _ _ z => by cases z)]; exact h1, Reps.rd hu k r r' h2⟩
  | .lst ds, P, v, h => by
    unfold Rep at h ⊢
    obtain ⟨b, vs, e, h0, h1, h2⟩ := h
    exact ⟨b, vs, e, h0, by rw [k b (Rd.only hu r h1 id fun _ _ z => by cases z)]; exact h1, Reps.rd hu k r r' h2⟩
  | .arg ns, P, v, h => by
    unfold Rep at h ⊢
    obtain ⟨b, e, h⟩ := h
    refine ⟨b, e, ?_⟩
    rcases h with ⟨h0, h1⟩ | h
    · exact .inl ⟨h0, Rd.move hu k r r' (fun _ _ z => by cases z) h1⟩
    · exact .inr h
  | .dik ks ds, P, v, h => by
    unfold Rep at h ⊢
    obtain ⟨b, vs, e, h0, hl, h1, h2⟩ := h
    exact ⟨b, vs, e, h0, hl, Rd.move hu k r r' (fun _ _ z => by cases z) h1, Reps.rd hu k r r' h2⟩
  | .dit ks ds, P, v, h => by
    unfold Rep at h ⊢
    obtain ⟨b, vs, e, h0, hl, h1, h2⟩ := h
    exact ⟨b, vs, e, h0, hl, Rd.move hu k r r' (fun _ _ z => by cases z) h1, Reps.rd hu k r r' h2⟩
  | .ftu ds, P, v, h => by
    unfold Rep at h ⊢
    obtain ⟨b, vs, o, e, h1, hd, h2⟩ := h
    have nb : b ≠ a := fun z => by
      subst z
      rcases r with r | ⟨x, r⟩ <;> rw [r] at h1 <;> cases h1 <;> exact hu.elim
    exact ⟨b, vs, o, e, by rw [k b nb]; exact h1, hd, Reps.rd hu k r r' h2⟩
  | .tab p q, P, v, h => by
    unfold Rep at h ⊢
    obtain ⟨b, e, h0, h1⟩ := h
    exact ⟨b, e, h0, TabS.rd hu k r h1⟩
theorem Reps.rd (hu : DicU u) (k : ∀ b, b ≠ a → H' b = H b) (r : Rd H a u) (r' : Rd H' a u) : ∀ {ds : List D} {P : Pr} {vs : List V}, Reps K H ds P vs → Reps K H' ds P vs
  | [], _, _, h => by rw [h.nil_iff]; exact Reps.nil
  | d :: ds, P, vs, h => by
    obtain ⟨v, ws, rfl, h1, h2⟩ := h.cons_iff
    exact Reps.cons (Rep.rd hu k r r' h1) (Reps.rd hu k r r' h2)
end
variable {P0 : Pr} {O W U : List Nat} {ρ : Y.Env} {σ : L2.St}
theorem Sim.rd (S : Sim K P0 O W ρ σ H) (hu : DicU u) (k : ∀ b, b ≠ a → H' b = H b) (r : Rd H a u) (r' : Rd H' a u) (n : ¬ FA P0 O σ a) : Sim K P0 O W ρ σ H' where
  sub := S.sub
  len := S.len
  dom := fun b z => by rw [k b fun e => n (e ▸ z)]; exact S.dom b z
  val := fun i d e h => let ⟨v, h1, h2⟩ := S.val i d e h; ⟨v, h1, h2.rd hu k r r'⟩
  own := fun i d e h => by
    obtain ⟨v, h1, h2⟩ := S.own i d e h
    have na : ∀ b, v = .ref b → b ≠ a := fun b e z => n (.inr ⟨i, h, by rw [h1, e, z]⟩)
    refine ⟨v, h1, ?_⟩
    cases d with
    | lst ds => obtain ⟨b, vs, e, g1, g2⟩ := h2; exact ⟨b, vs, e, by rw [k b (na b e)]; exact g1, g2.rd hu k r r'⟩
    | dik ks ds => obtain ⟨b, vs, e, hl, g1, g2⟩ := h2; exact ⟨b, vs, e, hl, by rw [k b (na b e)]; exact g1, g2.rd hu k r r'⟩
    | dit ks ds => obtain ⟨b, vs, e, hl, g1, g2⟩ := h2; exact ⟨b, vs, e, hl, by rw [k b (na b e)]; exact g1, g2.rd hu k r r'⟩
    | non => exact h2
    | bl _ => exact h2
    | int _ => exact h2
    | str _ => exact h2
    | tup _ => exact h2
    | arg _ => exact h2
    | ftu _ => exact h2
    | tab p q => obtain ⟨b, e, g1⟩ := h2; exact ⟨b, e, TabS.rd hu k r g1⟩
  sep := S.sep
  sep0 := S.sep0
end
def ItiT (d : Addr) (o : Obj) (kvs : List (List Key × V)) : It :=
  ⟨fun i H => H d = some (.frz o (.dT kvs)) ∧ i < kvs.length, fun i H x H' => ∃ T q k v, kvs[i]? = some (k, v) ∧ H q = some (.tup (k.map kV)) ∧ x = .ref T ∧ H T = none ∧ H' = upd H T (.tup [.ref q, v]), fun i H => H d = some (.frz o (.dT kvs)) ∧ kvs.length ≤ i⟩
theorem frzV {X : Cx} {pins : List (Addr × Obj)} {σ : L2.St} {H : Hp} {s : Shared} {d : Addr} {o : Obj} {kvs : List (List Key × V)} (I : Inv X pins σ H s) (h : H d = some (.frz o (.dT kvs))) :
    (d == sysModules) = false ∧ ∃ (es : Array DictEntry) (ep : Nat), s.heap.DictRaw d es ep ∧ o.data = .dict es ep ∧ es.size = kvs.length ∧
      ∀ (i : Nat) (hi : i < es.size) (k : List Key) (v : V), kvs[i]? = some (k, v) → ∃ q, es[i].key = .ref q ∧ H q = some (.tup (k.map kV)) ∧ RelV v es[i].val := by
  have t := I.hok d _ h
  rcases t with ⟨e0, -, hs, xs, pr, o', es, ep, e1, ex, dt, ent, -⟩
  have eo : o' = o := Option.some.inj (e1.symm.trans e0)
  subst eo
  have l1 : es.size = xs.length := by have := congrArg List.length ent; simpa using this
  refine ⟨hs, es, ep, ⟨o', e0, ex, dt⟩, dt, l1.trans (Paired.length pr).symm, fun i hi k v e => ?_⟩
  obtain ⟨b, eb, c1, c2, c3⟩ := paired_get pr e
  have c := congrArg (fun l => l[i]?) ent
  simp only [List.getElem?_map, eb, Option.map_some] at c
  have c4 : es[i] = entryOfKey (tupleKind (mixKind X.prog X.w)) b := by
    have c5 : es.toList[i]? = some es[i] := by rw [Array.getElem?_toList, Array.getElem?_eq_getElem hi]
    rw [c5] at c
    exact Option.some.inj c
  refine ⟨b.2.1, by rw [c4]; rfl, c2, by rw [c4]; exact c3⟩
section
variable {P : Program} {w : World} {K : PySem.W.Frag} {d : Addr} {o : Obj} {es : Array DictEntry} {ep : Nat}
theorem turn_itemsT {kvs : List (List Key × V)} {elts : List Expr} {kk : Nat} {tpos : Pos} (it : Addr) (hod : o.data = .dict es ep) :
    Turn P w K (.Tuple elts kk tpos) (ItiT d o kvs) [it] it (fun i h => ∃ ok ov, IsItemIter h it d i kvs.length ep ok ov) where
  mem := List.mem_singleton.mpr rfl
  obj := fun i h ⟨ok, ov, e⟩ b hb => by
    cases List.mem_singleton.mp hb
    exact ⟨_, e, fun v z => nomatch z⟩
  keep := fun i h h' ⟨ok, ov, e⟩ k => ⟨ok, ov, k it (List.mem_singleton.mpr rfl) _ e⟩
  item := by
    intro X hP hw hK hc i pins s σ H E I hf ⟨ok, ov, st⟩ ⟨hd, hi⟩
    subst hP; subst hw; subst hK
    obtain ⟨_, es', ep', raw, hdt, hsz, ent⟩ := frzV I hd
    obtain ⟨rfl, rfl⟩ := dict_ep hod hdt
    have hi2 : i < es'.size := by rw [hsz]; exact hi
    obtain ⟨q, k1, k2, k3⟩ := ent i hi2 kvs[i].1 kvs[i].2 (List.getElem?_eq_getElem hi)
    rw [← hsz] at st
    have lt : it < s.heap.objs.size := Heap.lt_size st
    refine wpAny_pyNext_items_item_raw st raw hi2 fun h1 out tup _ old => ⟨_, rfl, wpAny_letOwnedTupleGo_items (s := { s with heap := h1 }) out fun h2 st2 same => ?_⟩
    have tup2 : h2.get? s.heap.objs.size = some { cls := .type "tuple", data := .seq #[es'[i].key, es'[i].val] } := (same.2 _ (Nat.ne_of_gt lt)).trans tup
    have ok2 : ObjOk X.prog X.w (upd H s.heap.objs.size (.tup [.ref q, kvs[i].2])) h2 s.heap.objs.size (.tup [.ref q, kvs[i].2]) :=
      ⟨by show 2 ≤ sizeLine; decide, [es'[i].key, es'[i].val], .cons k1 (.cons k3 .nil), ⟨_, tup2, rfl, _, rfl⟩⟩
    have J := I.turnedNew (t' := s.toks) (ch := [it]) (fun b ob hb e => (same.2 b (by simpa using hb)).trans (old b ob (by simpa using hb) e)) hf (Nat.le_refl _) ok2
    refine ⟨.ref s.heap.objs.size, _, J, rfl, ⟨_, q, _, _, List.getElem?_eq_getElem hi, k2, rfl, I.hok.fresh (Nat.le_refl _), rfl⟩, ⟨es'[i].key, es'[i].val, by rw [← hsz]; exact st2⟩, fun b hb => ?_⟩
    cases List.mem_singleton.mp hb
    rw [upd_ne (Nat.ne_of_lt lt)]
    exact (hf it hb).1
  done := by
    intro X hP hw hK hc i pins s σ H E I hf ⟨ok, ov, st⟩ ⟨hd, hi⟩
    subst hP; subst hw; subst hK
    obtain ⟨_, es', ep', raw, hdt, hsz, ent⟩ := frzV I hd
    obtain ⟨rfl, rfl⟩ := dict_ep hod hdt
    obtain ⟨g0, g1, g2, g3, g4, g5⟩ := hf it (List.mem_singleton.mpr rfl)
    rw [← hsz] at st
    exact wpAny_pyNext_items_end_raw (I.ok.hd hc) st raw (by rw [hsz]; exact hi) fun h1 eb => ⟨rfl, I.turned (t' := s.toks) (fun b ob hb e => eb b ob hb e) g0 g1 g3 g4 g5⟩
  self := fun A i s Q E ⟨_, _, e⟩ h => PySem.W.kcp_self e h
end
def iItemsT (td : TE) : TI := fun σ H R => td σ H fun x H1 => ∃ d o kvs, x = .ref d ∧ H1 d = some (.frz o (.dT kvs)) ∧ R (ItiT d o kvs) H1
theorem pi_itemsT {X : Cx} {e : Expr} {td : TE} {apos cpos : Pos} {elts : List Expr} {kk : Nat} {tpos : Pos} (he : PE X e td) (hbase : attributeBase e "items" X.env (eval e X.env) = eval e X.env := by rfl) (hline : (apos.endLine == cpos.line) = true := by rfl) :
    PI X (.Tuple elts kk tpos) (.Call (.Attribute e "items" apos) [] [] cpos) (iItemsT td) := by
  refine ⟨fun pins s σ H R I h => wpAny_Call_method (T := "dict") (id := "dict.items") hbase rfl hline F.plainAttrs_dict F.slot_dict_items F.type_dict_items (thn (he.run pins s σ H _ I h) fun u s1 ⟨x, H1, I1, rx, d, o, kvs, ex, hd, q⟩ => ?_)⟩
  cases ex
  cases (show u = Value.ref d from rx)
  obtain ⟨hs, es, ep, raw, hdt, hsz, ent⟩ := frzV I1 hd
  obtain ⟨o1, g1, g2, g3⟩ := id raw
  refine ⟨raw.typeIs, ?_, ?_⟩
  · intro b e
    cases e
    exact ⟨o1, g1, g2.2.1⟩
  · have I2 : Inv X pins σ H1 { s1 with heap := s1.heap.push { cls := .type "dict_items", data := .fields #[.ref d] } } := I1.kept (t' := s1.toks) fun b ob q => Heap.get?_push_of_some _ q
    have fin : wpAny (model X.prog X.w) X.A (pyIter (.ref s1.heap.objs.size)) (PIE X pins σ (.Tuple elts kk tpos) R) X.xe { s1 with heap := s1.heap.push { cls := .type "dict_items", data := .fields #[.ref d] } } :=
      wpAny_pyIter_items_raw (d := d) ⟨_, Heap.get?_push_size _ rfl, rfl, rfl⟩ (raw.at fun _ e => Heap.get?_push_of_some _ e) (pi_one (tk := s1.toks) I2 _ (turn_itemsT _ hdt) ⟨.none, .none, by rw [← hsz]; exact Heap.get?_push_size _ rfl⟩ q)
    show wpAny _ _ (callWith cpos (.builtin "dict.items") [.ref d] [] []) _ X.xe s1
    exact method_meetsIn F.slot_dict_items F.entry_dict_items rfl (PySem.evalArgs_none ⟨rfl, raw.typeIs, F.args_dict_items_1 _, _, meets_dict_items_raw d hs, ⟨es, ep, raw⟩, fin⟩)

def keyD : Key → D
  | .inl i => .int i
  | .inr x => .str x
def dicItems : D → R (List D)
  | .dik ks ds => .ok ((ks.zip ds).map fun p => .tup [keyD p.1, p.2])
  | .dit ks ds => .ok ((ks.zip ds).map fun p => .tup [.tup (p.1.map keyD), p.2])
  | _ => .stk
def cItems (i : Nat) : IM := fun ρ => do
  let d ← (look i ρ).nox
  let ds ← (dicItems d).nox
  if szOk ds.length = true then pure ((ds, []), ρ) else .stk
def sForD (m : SM) : SM := fun ρ => (m ρ).nox
theorem rep_key {K : PySem.W.Frag} {H : Hp} {P : Pr} (k : Key) : Rep K H (keyD k) P (kV k) := by
  cases k <;> (show Rep K H _ P _; unfold keyD Rep; rfl)
theorem reps_keys {K : PySem.W.Frag} {H : Hp} {P : Pr} : ∀ k : List Key, Reps K H (k.map keyD) P (k.map kV)
  | [] => Reps.nil
  | k :: ks => Reps.cons (rep_key k) (reps_keys ks)
section
variable {K : PySem.W.Frag} {O W : List Nat} {a : Addr} {o : Obj} {ds : List D} {vs : List V}
theorem zip_at {α β : Type} {ks : List α} {ds : List β} {i : Nat} {p : α × β} (h : (ks.zip ds)[i]? = some p) : ks[i]? = some p.1 ∧ ds[i]? = some p.2 := by
  obtain ⟨k, d⟩ := p
  exact List.getElem?_zip_eq_some.mp h
theorem src_items {κ : Type} {ks : List κ} {J : It} {f : κ → D} {mk : List (κ × V) → HO} (hJ1 : ∀ i H, H a = some (.frz o (mk (ks.zip vs))) → i < (ks.zip vs).length → J.go i H) (hJ2 : ∀ i H, H a = some (.frz o (mk (ks.zip vs))) → (ks.zip vs).length ≤ i → J.stop i H)
    (hJ3 : ∀ i H x H', J.yld i H x H' → ∃ T k v kv, (ks.zip vs)[i]? = some (k, v) ∧ (∀ P, Rep K H (f k) P kv) ∧ x = .ref T ∧ H T = none ∧ H' = upd H T (.tup [kv, v])) (hl : ks.length = vs.length) (hd : vs.length = ds.length) :
    Src K O W ((ks.zip ds).map fun p => .tup [f p.1, p.2]) [] J (fun P0 _ σ H => H a = some (.frz o (mk (ks.zip vs))) ∧ ¬ FA P0 O σ a ∧ Reps K H ds (FA P0 O σ) vs) where
  go := fun P0 i ρ σ H S ⟨h1, _, _⟩ hi => hJ1 i H h1 (by rw [List.length_zip] ; simp at hi; omega)
  stop := fun P0 ρ σ H S ⟨h1, _, _⟩ => hJ2 _ H h1 (by simp; omega)
  yld := fun P0 i ρ σ H x H' d S ⟨h1, h2, h3⟩ hd' y => by
    obtain ⟨T, k, v, kv, e1, e2, rfl, hT, rfl⟩ := hJ3 i H x H' y
    rw [List.getElem?_map] at hd'
    cases q : (ks.zip ds)[i]? with
    | none => rw [q] at hd'; cases hd'
    | some p =>
      rw [q] at hd'
      cases hd'
      obtain ⟨k1, k2⟩ := zip_at q
      obtain ⟨k3, k4⟩ := zip_at e1
      rw [k1] at k3
      cases k3
      obtain ⟨v', k5, r⟩ := h3.get k2
      rw [k4] at k5
      cases k5
      exact ⟨Same.new hT, Rep.newT S.dom (Reps.cons (e2 _) (Reps.cons r Reps.nil)) hT⟩
  keep := fun P0 ρ σ H ρ' σ' H' S k w _ ⟨h1, h2, h3⟩ => ⟨k _ _ h1 h2, (fun z => (w a z).elim h2 fun z => by rw [h1] at z; cases z), h3.mono ds S.dom k w⟩
  mem := fun _ _ _ _ _ w hw => nomatch hw
  grow := fun P0 P1 ρ σ H H' S w k ⟨h1, h2, h3⟩ => by
    have q : ∀ b, FA P1 O σ b → FA P0 O σ b ∨ H b = none := fun b z => by
      rcases z with z | z
      · exact (w b z).imp .inl id
      · exact .inl (.inr z)
    exact ⟨k _ _ h1, (fun z => (q a z).elim h2 fun z => by rw [h1] at z; cases z), h3.mono ds S.dom (fun b o e _ => k b o e) q⟩
theorem items_readK {P0 : Pr} {E : EK} {σ : L2.St} {H : Hp} {R' : It → Hp → Prop} {i : Nat} {kvs : List (Key × V)} (ho : i ∉ O) (h : tMi K P0 O W E (cItems i) σ H R') (e : σ[i]? = some (some (.ref a))) (hf : H a = some (.frz o (.dK kvs))) : iItems (tVar i) σ H R' := by
  obtain ⟨ρ, S, h⟩ := h
  obtain ⟨d, e1, h⟩ := Res.of_nox h
  obtain ⟨ps, e2, h⟩ := Res.of_nox h
  obtain ⟨v, e3, r⟩ := S.val i d (look_some e1) ho
  rw [e] at e3
  cases e3
  by_cases c : szOk ps.length = true
  · rw [if_pos c] at h
    cases d with
    | dik ks ds =>
      cases e2
      unfold Rep at r
      obtain ⟨b, vs, eb, h0, hl, rd, rs⟩ := r
      cases eb
      have ek : kvs = ks.zip vs := by
        rcases rd with rd | ⟨y, rd⟩ <;> (rw [hf] at rd; cases rd)
        rfl
      subst ek
      refine ⟨.ref a, e, a, o, _, rfl, hf, h (Iti a o (ks.zip vs)) H _ S .refl (src_items (J := Iti a o (ks.zip vs)) (mk := HO.dK) (f := keyD) (ds := ds) (o := o) (a := a) (fun i H h1 h2 => ⟨h1, h2⟩) (fun i H h1 h2 => ⟨h1, h2⟩) (fun i H x H' ⟨T, k, v, y1, y2, y3, y4⟩ => ⟨T, k, v, kV k, y1, fun P => rep_key k, y2, y3, y4⟩) hl rs.length) ⟨hf, h0, rs.less (mutK S.dom (.inr ⟨o, hf⟩)) fun b z => .inl z⟩ (of_decide_eq_true c)⟩
    | dit ks ds =>
      unfold Rep at r
      obtain ⟨b, vs, eb, h0, hl, rd, rs⟩ := r
      cases eb
      rcases rd with rd | ⟨y, rd⟩ <;> (rw [hf] at rd; cases rd)
    | _ => cases e2
  · rw [if_neg c] at h; exact h.elim
theorem items_readT {P0 : Pr} {E : EK} {σ : L2.St} {H : Hp} {R' : It → Hp → Prop} {i : Nat} {kvs : List (List Key × V)} (ho : i ∉ O) (h : tMi K P0 O W E (cItems i) σ H R') (e : σ[i]? = some (some (.ref a))) (hf : H a = some (.frz o (.dT kvs))) : iItemsT (tVar i) σ H R' := by
  obtain ⟨ρ, S, h⟩ := h
  obtain ⟨d, e1, h⟩ := Res.of_nox h
  obtain ⟨ps, e2, h⟩ := Res.of_nox h
  obtain ⟨v, e3, r⟩ := S.val i d (look_some e1) ho
  rw [e] at e3
  cases e3
  by_cases c : szOk ps.length = true
  · rw [if_pos c] at h
    cases d with
    | dit ks ds =>
      cases e2
      unfold Rep at r
      obtain ⟨b, vs, eb, h0, hl, rd, rs⟩ := r
      cases eb
      have ek : kvs = ks.zip vs := by
        rcases rd with rd | ⟨y, rd⟩ <;> (rw [hf] at rd; cases rd)
        rfl
      subst ek
      refine ⟨.ref a, e, a, o, _, rfl, hf, h (ItiT a o (ks.zip vs)) H _ S .refl (src_items (J := ItiT a o (ks.zip vs)) (mk := HO.dT) (f := fun k => .tup (k.map keyD)) (ds := ds) (o := o) (a := a) (fun i H h1 h2 => ⟨h1, h2⟩) (fun i H h1 h2 => ⟨h1, h2⟩) (fun i H x H' ⟨T, q, k, v, y1, yq, y2, y3, y4⟩ => ⟨T, k, v, .ref q, y1, fun P => Rep.tup_of yq (reps_keys k), y2, y3, y4⟩) hl rs.length) ⟨hf, h0, rs.less (mutT S.dom (.inr ⟨o, hf⟩)) fun b z => .inl z⟩ (of_decide_eq_true c)⟩
    | dik ks ds =>
      unfold Rep at r
      obtain ⟨b, vs, eb, h0, hl, rd, rs⟩ := r
      cases eb
      rcases rd with rd | ⟨y, rd⟩ <;> (rw [hf] at rd; cases rd)
    | _ => cases e2
  · rw [if_neg c] at h; exact h.elim
end

theorem PS.or {X : Cx} {st : Stmt} {t t' : TS} (h : PS X st t) (h' : PS X st t') : PS X st fun D σ H => t D σ H ∨ t' D σ H :=
  ⟨fun pins s σ H D I q => q.elim (h.run pins s σ H D I) (h'.run pins s σ H D I)⟩
abbrev Ends.lock (a : Addr) (od : Obj) (u : HO) (D : Ends) : Ends := ⟨fun σ' H' => H' a = some (.frz od u) ∧ D.nx σ' (upd H' a u), fun v H' => H' a = some (.frz od u) ∧ D.rt v (upd H' a u), fun σ' H' => H' a = some (.frz od u) ∧ D.bk σ' (upd H' a u), fun σ' H' => H' a = some (.frz od u) ∧ D.ct σ' (upd H' a u)⟩
section
variable {K : PySem.W.Frag} {P0 : Pr} {O W U : List Nat} {E : EK} {ρ : Y.Env} {σ : L2.St} {H : Hp} {m : SM} {D : Ends} {a : Addr} {u : HO}
theorem tSt_lock (S : Sim K P0 O W ρ σ H) {x : Fl × Y.Env} (e : m ρ = .ok x) (h : ∀ σ' H', Sim K P0 O W x.2 σ' H' → Tr O U σ H σ' H' → σ'.length = σ.length → Fin K P0 O H D σ' H' x.1) (hu : DicU u) (ha : H a = some u) (n : ¬ FA P0 O σ a) (od : Obj) : tSt K P0 O W U E m (Ends.lock a od u D) σ (upd H a (.frz od u)) := by
  have S1 : Sim K P0 O W ρ σ (upd H a (.frz od u)) := S.rd hu (fun b h => upd_ne h) (.inl ha) (.inr ⟨od, upd_same⟩) n
  refine ⟨ρ, S1, ?_⟩
  rw [e]
  intro σ' H' S' t l
  have na : ∀ P : Addr → Prop, (∀ b, P b → FA P0 O σ b) → ¬ P a := fun P h z => n (h a z)
  have fr : H' a = some (.frz od u) := t.keep a _ upd_same fun z => n (.inr z)
  have noa : ¬ OA O σ' a := fun z => (t.own a z).elim (fun z => n (.inr z)) fun z => by rw [upd_same] at z; cases z
  have n' : ¬ FA P0 O σ' a := fun z => z.elim (fun z => n (.inl z)) noa
  have k : ∀ b, b ≠ a → upd H' a u b = H' b := fun b h => upd_ne h
  have r1 : Rd H' a u := .inr ⟨od, fr⟩
  have r2 : Rd (upd H' a u) a u := .inl upd_same
  have S2 : Sim K P0 O W x.2 σ' (upd H' a u) := S'.rd hu k r1 r2 n'
  have t2 : Tr O U σ H σ' (upd H' a u) := ⟨fun b o e1 e2 => by
      by_cases hb : b = a
      · rw [hb] at e1 ⊢; rw [upd_same, ← ha, e1]
      · rw [upd_ne hb]; exact t.keep b o (by rw [upd_ne hb]; exact e1) e2, fun b e1 => by
      by_cases hb : b = a
      · rw [hb, upd_same]; intro z; cases z
      · rw [upd_ne hb]; exact t.some b (by rw [upd_ne hb]; exact e1), fun b z => by
      by_cases hb : b = a
      · rw [hb] at z; exact absurd z noa
      · exact (t.own b z).imp id fun q => by rw [upd_ne hb] at q; exact q, t.unch⟩
  have q := h σ' _ S2 t2 l
  obtain ⟨f, ρ'⟩ := x
  cases f with
  | nx => exact ⟨fr, q⟩
  | bk => exact ⟨fr, q⟩
  | ct => exact ⟨fr, q⟩
  | rt hd =>
    intro v r
    refine ⟨fr, q v ?_⟩
    cases hd with
    | fr d => exact ⟨r.1.rd hu k r1 r2, fun m b e => by
        have := r.2 m b e
        by_cases hb : b = a
        · rw [hb, upd_same] at this; cases this
        · rw [upd_ne hb] at this; exact this⟩
    | vl d => exact Rep.rd hu k r1 r2 r
    | ow i => exact r
end
section
variable {X : Cx} {P0 : Pr} {O W U : List Nat} {E : EK} {m : SM}
theorem cs_forItems {i : Nat} {x : Str} {tm : GM} {is vs U' : List Nat} {xs : List Stmt} {p ap cp pos tp : Pos} {elts : List Expr} {kk : Nat} (hp : PassesOwn (model X.prog X.w) X.A X.env X.xe) (hc : X.calm = true) (hg : CG X P0 O W (.Tuple elts kk tp) tm is) (hb : CSs X P0 O W U' E xs m) (hi : i ∉ O := by decide) (ho : ∀ i ∈ is, i ∉ O := by decide) (hu : ∀ i ∈ U', i ∈ O := by decide) (hu' : ∀ i ∈ U, i ∈ U' := by decide)
    (hN : X.N[i]? = some x := by rfl) (hv : Vis X.env.scope x := by first | exact Or.inl rfl | exact Or.inr (Or.inl rfl) | exact Or.inr (Or.inr rfl)) (hd : (x == ("__debug__" : Str)) = false := by decide) (hcd : (x == ("__classdict__" : Str)) = false := by decide)
    (hbase : attributeBase (.Name x p) "items" X.env (eval (.Name x p) X.env) = eval (.Name x p) X.env := by rfl) (hline : (ap.endLine == cp.line) = true := by rfl) (hs : ∀ y, foldedSetIterable (.Call (.Attribute (.Name x p) "items" ap) [] [] cp) X.env y = pure y := by intro _; rfl) :
    CS X P0 O W U E (.For (.Tuple elts kk tp) (.Call (.Attribute (.Name x p) "items" ap) [] [] cp) xs [] pos) (sForD (sFor U' (cItems i) tm m vs)) := by
  have p1 := ps_for hp hc (pi_items (pe_var (i := i) hN hv hd hcd) hbase hline) hg hb hs (pos := pos)
  have p2 := ps_for hp hc (pi_itemsT (pe_var (i := i) hN hv hd hcd) hbase hline) hg hb hs (pos := pos)
  refine PS.imp (PS.or (PS.or p1 (ps_lock p1)) (PS.or p2 (ps_lock p2))) fun D σ H ⟨ρ, S, h⟩ => ?_
  obtain ⟨z, e, h⟩ := Res.of_nox1 h
  have e0 : sFor U' (cItems i) tm m vs ρ = .ok z := e
  unfold sFor at e
  obtain ⟨⟨⟨ds, ws⟩, ρ1⟩, e1, e⟩ := R.ok_of e
  unfold cItems at e1
  obtain ⟨d, e2, e1⟩ := R.ok_of e1
  have e2 := R.nox_of e2
  obtain ⟨ps, e3, e1⟩ := R.ok_of e1
  have e3 := R.nox_of e3
  obtain ⟨v, g1, g2⟩ := S.val i d (look_some e2) hi
  have go : ∀ (D' : Ends) (H' : Hp), tSt X.K P0 O W U E (sFor U' (cItems i) tm m vs) D' σ H' → _ := fun D' H' q => for_core (X := X) (is := is) ho hu hu' D' σ H' q
  cases d with
  | dik ks ds =>
    left
    unfold Rep at g2
    obtain ⟨a, us, rfl, n, hl, rd, rs⟩ := g2
    rcases rd with rd | ⟨od, rd⟩
    · right
      refine ⟨a, _, rd, trivial, fun od => ?_⟩
      exact items_readK hi (go _ _ (tSt_lock (u := HO.dK (ks.zip us)) S e0 h trivial rd n od)) g1 upd_same
    · left
      exact items_readK hi (go D H ⟨ρ, S, by rw [e0]; exact h⟩) g1 rd
  | dit ks ds =>
    right
    unfold Rep at g2
    obtain ⟨a, us, rfl, n, hl, rd, rs⟩ := g2
    rcases rd with rd | ⟨od, rd⟩
    · right
      refine ⟨a, _, rd, trivial, fun od => ?_⟩
      exact items_readT hi (go _ _ (tSt_lock (u := HO.dT (ks.zip us)) S e0 h trivial rd n od)) g1 upd_same
    · left
      exact items_readT hi (go D H ⟨ρ, S, by rw [e0]; exact h⟩) g1 rd
  | _ => cases e3
end
@[simp] theorem e_items {i : Nat} {ρ : Y.Env} : cItems i ρ = ((look i ρ).nox >>= fun d => (dicItems d).nox >>= fun ds => if szOk ds.length = true then R.ok ((ds, []), ρ) else .stk) := id rfl
@[simp] theorem e_forD {m : SM} {ρ : Y.Env} : sForD m ρ = (m ρ).nox := id rfl
@[simp] theorem d_itemsK {ks : List Key} {ds : List D} : dicItems (.dik ks ds) = .ok ((ks.zip ds).map fun p => .tup [keyD p.1, p.2]) := id rfl
@[simp] theorem d_itemsT {ks : List (List Key)} {ds : List D} : dicItems (.dit ks ds) = .ok ((ks.zip ds).map fun p => .tup [.tup (p.1.map keyD), p.2]) := id rfl
end Y

set_option Elab.async false
set_option linter.all false
set_option maxRecDepth 100000
namespace Y
open PySem PySem.Spec PyProof.Rows L2
def neZ : D → D → R D
  | .dik ks _, .dik [] _ => .ok (.bl (!ks.isEmpty))
  | _, _ => .stk
section
variable {X : Cx} {pins : List (Addr × Obj)} {σ : L2.St} {H : Hp} {s : Shared}
theorem dic_of {P : Pr} {ks : List Key} {ds : List D} {x : V} {v : Value} (I : Inv X pins σ H s) (r : RepW X.K H (.dik ks ds) P x) (rx : RelV x v) : ∃ a vs, v = .ref a ∧ (a == sysModules) = false ∧ s.heap.DictOf (mixKind X.prog X.w) a vs ∧ vs.length = ks.length := by
  obtain ⟨a, us, rfl, hl, rd, rs⟩ := r
  obtain ⟨_, hs, vs, kv, d⟩ := rd.ok I.hok
  refine ⟨a, vs, rx, hs, d, ?_⟩
  have := Paired.length kv
  rw [List.length_zip] at this
  omega
theorem od_neZ (hu : X.A.units < cLine) : OpR X (compareOp .NotEq) (rD X.K neZ) := by
  intro pins s σ H x y v u Q I rx ry ⟨P, dx, dy, dz, hm, r1, r2, e, out⟩
  unfold neZ at e
  split at e
  · rename_i ks ds es
    cases e
    obtain ⟨a, vs, rfl, a1, a2, a3⟩ := dic_of I r1 rx
    obtain ⟨b, us, rfl, b1, b2, b3⟩ := dic_of I r2 ry
    have b4 : us = [] := List.eq_nil_of_length_eq_zero b3
    subst b4
    refine PySem.W.keq_ne (r := true) a1 b1 a2 b2 hu (fun z => ?_) ⟨.bl _, H, I, rfl, ?_⟩
    · have : vs = [] := List.eq_nil_of_length_eq_zero z
      subst this
      exact .nil
    · have : (!(vs.length == ([] : List (Key × Value)).length && true)) = !ks.isEmpty := by
        rw [a3]; cases ks <;> rfl
      rw [this]
      exact out.bl
  · cases e
end
@[simp] theorem d_neZ {ks : List Key} {ds es : List D} : neZ (.dik ks ds) (.dik [] es) = .ok (.bl (!ks.isEmpty)) := id rfl
variable {ρ : Y.Env}
@[simp] theorem e_dicnew {tup : Bool} {i : Nat} : sDicNew tup i ρ = if i < ρ.length then .ok (.nx, ρ.set i (some (if tup = true then .dit [] [] else .dik [] []))) else .stk := id rfl
@[simp] theorem e_dicAtK {i : Nat} : dicAt i ρ = (match ρ[i]? with | some (some (.dik ks ds)) => .ok (.dik ks ds) | some (some (.dit ks ds)) => .ok (.dit ks ds) | _ => .stk) := id rfl
@[simp] theorem e_dput {i : Nat} {mk mv : EM} : sDPutS i mk mv ρ = (mv ρ >>= fun p => p.1.v.nox >>= fun d => (dicAt i p.2).nox >>= fun _ => mk p.2 >>= fun q => q.1.v.nox >>= fun k => (dicAt i q.2).nox >>= fun x => (putDic x k d).nox >>= fun z => R.ok (.nx, q.2.set i (some z))) := id rfl
@[simp] theorem e_din {neg : Bool} {a b : EM} : cDIn neg b a ρ = (b ρ >>= fun p => a p.2 >>= fun q => (q.1.d q.2).nox >>= fun x => (p.1.d q.2).nox >>= fun y => (getDic x y).nox >>= fun o => R.ok (.fr (.bl (if neg = true then !o.isSome else o.isSome)), q.2)) := id rfl
@[simp] theorem d_putK {ks : List Key} {ds : List D} {i : Int} {d : D} : putDic (.dik ks ds) (.int i) d = if szOk (ks.length + 1) = true then .ok (.dik (putKs ks (.inl i)) (putDs ks ds (.inl i) d)) else .stk := id rfl
@[simp] theorem d_getK {ks : List Key} {ds : List D} {i : Int} : getDic (.dik ks ds) (.int i) = .ok (findD ks ds (.inl i)) := id rfl
end Y

set_option Elab.async false
set_option linter.all false
set_option maxRecDepth 100000
set_option maxHeartbeats 4000000
namespace Y
open PySem PySem.Spec PyProof.Rows L2
section
variable {X : Cx} {pins : List (Addr × Obj)} {σ : L2.St} {H : Hp} {s : Shared}
theorem rawT {d : Addr} {kvs : List (List Key × V)} (I : Inv X pins σ H s) (h : Rd H d (.dT kvs)) :
    (d == sysModules) = false ∧ kvs.length ≤ sizeLine ∧ ∃ (es : Array DictEntry) (ep : Nat), s.heap.DictRaw d es ep ∧ es.size = kvs.length ∧
      ∀ (i : Nat) (hi : i < es.size) (k : List Key) (v : V), kvs[i]? = some (k, v) → ∃ q, es[i].key = .ref q ∧ H q = some (.tup (k.map kV)) ∧ RelV v es[i].val := by
  have t := h.ok I.hok
  rcases t with ⟨hz, hs, xs, pr, o', es, ep, e1, ex, dt, ent, -⟩
  have l1 : es.size = xs.length := by have := congrArg List.length ent; simpa using this
  refine ⟨hs, hz, es, ep, ⟨o', e1, ex, dt⟩, l1.trans (Paired.length pr).symm, fun i hi k v e => ?_⟩
  obtain ⟨b, eb, c1, c2, c3⟩ := paired_get pr e
  have c := congrArg (fun l => l[i]?) ent
  simp only [List.getElem?_map, eb, Option.map_some] at c
  have c4 : es[i] = entryOfKey (tupleKind (mixKind X.prog X.w)) b := by
    have c5 : es.toList[i]? = some es[i] := by rw [Array.getElem?_toList, Array.getElem?_eq_getElem hi]
    rw [c5] at c
    exact Option.some.inj c
  refine ⟨b.2.1, by rw [c4]; rfl, c2, by rw [c4]; exact c3⟩
theorem keyV_of {q : Addr} {ns : List Int} (h : H q = some (.tup (ns.map V.int))) : keyV H (.ref q) = ns := by
  show (match H q with | some (.tup ws) => ws.map intV | _ => []) = ns
  rw [h]
  exact ints_back ns
def rSortDT : List V → Hp → VK → Prop := fun vs H Q => ∃ (a : Addr) (kvs : List (List Key × V)) (ks : List (List Int)), vs = [V.ref a] ∧ Rd H a (.dT kvs) ∧ kvs.map (·.1) = ks.map (·.map Sum.inl) ∧ (2 ≤ ks.length → ∀ k ∈ ks, k ≠ []) ∧
  ∀ ys p, ys.map (keyV H) = sortL ks → (∀ y ∈ ys, ∃ t, y = V.ref t ∧ H t = some (.tup ((keyV H y).map V.int))) → H p = none → Q (.ref p) (upd H p (.lst ys))
theorem kV_ints (ns : List Int) : (ns.map (Sum.inl : Int → Key)).map kV = ns.map V.int := by rw [List.map_map]; rfl
theorem cr_sortDT (hc : X.calm = true) : CallR X (.builtin "sorted") rSortDT := by
  intro pins s σ H vs us Q I r ⟨a, kvs, ks, e0, hd, hks, hne, q⟩
  subst e0
  obtain ⟨u, e3, ru⟩ := vals1 r
  subst e3
  cases (show u = Value.ref a from ru)
  obtain ⟨hs, hz, es, ep, raw, hsz, ent⟩ := rawT I hd
  have lk : ks.length = kvs.length := by have := congrArg List.length hks; simpa using this.symm
  refine Calls.call_function_entry PyProof.Rows.kind_sorted PyProof.Rows.plain_sorted PyProof.Rows.entry_sorted (PyProof.Rows.args_sorted1 _) ?_
  unfold Builtin.«sorted»
  refine wpAny_bind (m := checkCount "sorted" 1 1 _) (wpAny_pure ?_)
  refine wpAny_bind (PySem.W.kdu_collect (A := X.A.in1) (KdlSrc.rawDict (es := es) (ep := ep) hs) (I.ok.hd hc) raw (by rw [hsz]; exact hz) fun h' tk acc hk hacc => ?_)
  have la : acc.toList.length = ks.length := by rw [Array.length_toList, hacc.1, hsz, lk]
  have I1 : Inv X pins σ H { s with heap := h', toks := tk } := I.kept hk
  -- each collected value is a key's tuple
  have each : ∀ (j : Nat) (v : Value), acc.toList[j]? = Option.some v → ∃ q, v = Value.ref q ∧ ∃ k, ks[j]? = some k ∧ H q = some (.tup (k.map V.int)) := fun j v e => by
    obtain ⟨hj, e1⟩ := hacc.2 j v (by rw [← Array.getElem?_toList]; exact e)
    have hj2 : j < kvs.length := by rw [← hsz]; exact hj
    obtain ⟨q, e2, e3, _⟩ := ent j hj kvs[j].1 kvs[j].2 (List.getElem?_eq_getElem hj2)
    have e4 : (kvs.map (·.1))[j]? = some kvs[j].1 := by rw [List.getElem?_map, List.getElem?_eq_getElem hj2]; rfl
    rw [hks, List.getElem?_map] at e4
    cases e5 : ks[j]? with
    | none => rw [e5] at e4; cases e4
    | some k =>
      rw [e5] at e4
      have e6 : k.map Sum.inl = kvs[j].1 := Option.some.inj e4
      exact ⟨q, by rw [e1, e2], k, rfl, by rw [e3, ← e6, kV_ints]⟩
  have each2 : ∀ v ∈ acc.toList, ∃ q, v = Value.ref q ∧ keyV H (backV v) ∈ ks ∧ H q = some (.tup ((keyV H (backV v)).map V.int)) := fun v hv => by
    obtain ⟨j, hj, rfl⟩ := List.mem_iff_getElem.mp hv
    obtain ⟨q, e, k, e1, e2⟩ := each j _ (List.getElem?_eq_getElem hj)
    have e3 : keyV H (backV acc.toList[j]) = k := by rw [e]; exact keyV_of e2
    rw [e3]
    exact ⟨q, e, List.mem_of_getElem? e1, e2⟩
  have keys : acc.toList.map (fun v => keyV H (backV v)) = ks := by
    refine List.ext_getElem? fun j => ?_
    rw [List.getElem?_map]
    cases e : acc.toList[j]? with
    | none =>
      rw [List.getElem?_eq_none_iff] at e
      rw [Option.map_none, List.getElem?_eq_none (by omega)]
    | some v =>
      obtain ⟨q, e1, k, e2, e3⟩ := each j v e
      rw [e2, Option.map_some, e1]
      exact congrArg some (keyV_of e3)
  refine wpAny_bind (wpAny_newList ?_ (by rw [la, lk]; exact hz))
  have hoL : (h'.push (seqObj "list" acc.toList.toArray 0)).get? h'.objs.size = some (seqObj "list" acc.toList.toArray 0) := Heap.get?_push_size _ rfl
  show wpAny _ _ _ _ _ { s with heap := h'.push (seqObj "list" acc.toList.toArray 0), toks := tk }
  refine wpAny_bind (wpAny_holding (wpAny_call_entry PyProof.Rows.slot_list_sort ⟨_, hoL, rfl⟩ PyProof.Rows.entry_list_sort
    (SrtO.list_sort_ord (ltL_swo fun v => keyV H (backV v)) hoL (by rw [la, lk]; exact hz) (fun h2 => ?_) fun out hs1 hs2 => ⟨_, rfl, ?_⟩) (PyProof.Rows.args_list_sort _)))
  · refine tup_sortable (by omega) (fun v hv => ?_) fun o e => ?_
    · obtain ⟨q, e, m, hq⟩ := each2 v hv
      refine ⟨?_, hne (by omega) _ m⟩
      obtain ⟨_, its2, r2, o, ho, hc2, n, hd2⟩ := I1.hok _ _ hq
      rw [e] at hq ⊢
      exact ⟨q, o, _, n, rfl, Heap.get?_push_of_some _ ho, hc2, hd2, by rw [List.toList_toArray]; rw [e] at r2; exact ints_vals r2⟩
    · cases e.symm.trans hoL
      exact fun c => absurd (Value.type.inj c) (by decide)
  · obtain ⟨e', he'⟩ := PyProof.Rows.sortedHeap_at (vs := acc.toList) (out := out.toArray) hoL
    have pm := hs2.perm
    have ho : ∀ u ∈ out, ∃ q, u = Value.ref q ∧ H q = some (.tup ((keyV H (backV u)).map V.int)) := fun u hu => by
      obtain ⟨q, e, _, h⟩ := each2 u (pm.mem_iff.mp hu)
      exact ⟨q, e, h⟩
    have lo : (out.map backV).length ≤ sizeLine := by rw [List.length_map, pm.length_eq, la, lk]; exact hz
    refine wpAny_pure ⟨_, rfl, .ref h'.objs.size, upd H h'.objs.size (.lst (out.map backV)), I1.laid (t' := tk) (fun b u e => ?_) (Nat.le_refl _)
      (show ObjOk X.prog X.w _ _ _ (.lst (out.map backV)) from ⟨lo, out, e', vals_back fun u hu => (ho u hu).imp fun q h => h.1, he'⟩), rfl, q _ _ ?_ (fun y hy => ?_) (I1.hok.fresh (Nat.le_refl _))⟩
    · have hb : b < h'.objs.size := Heap.lt_size e
      rw [PyProof.Rows.sortedHeap_old (Nat.ne_of_lt hb) (by rw [size_push']; exact Nat.lt_succ_of_lt hb)]
      exact Heap.get?_push_of_some _ e
    · rw [List.map_map]
      refine sortL_of ?_ (List.pairwise_map.mpr hs1)
      have := pm.map (keyV H ∘ backV)
      rw [show acc.toList.map (keyV H ∘ backV) = ks from keys] at this
      exact this
    · obtain ⟨u, hu, rfl⟩ := List.mem_map.mp hy
      obtain ⟨q, rfl, h⟩ := ho u hu
      exact ⟨q, rfl, h⟩
end
end Y

set_option Elab.async false
set_option linter.all false
set_option maxRecDepth 100000
set_option maxHeartbeats 4000000
namespace Y
open PySem PySem.Spec PyProof.Rows L2
section
variable {K : PySem.W.Frag} {X : Cx} {H : Hp} {P : Pr}
theorem zip_rep : ∀ {ds : List D} {vs : List V}, Reps K H ds P vs → ∀ p ∈ ds.zip vs, Rep K H p.1 P p.2
  | [], vs, h, p, hp => by simp at hp
  | d :: ds, vs, h, p, hp => by
    obtain ⟨v, ws, rfl, h1, h2⟩ := h.cons_iff
    rw [List.zip_cons_cons] at hp
    rcases List.mem_cons.mp hp with rfl | hp
    · exact h1
    · exact zip_rep h2 p hp
theorem reps_zip : ∀ {ps : List (D × V)}, (∀ p ∈ ps, Rep K H p.1 P p.2) → Reps K H (ps.map (·.1)) P (ps.map (·.2))
  | [], _ => Reps.nil
  | p :: ps, h => Reps.cons (h p (by simp)) (reps_zip fun q hq => h q (by simp [hq]))
theorem each_zip : ∀ {ds : List D} {vs : List V} {us : List Value}, vs.length = ds.length → Vals vs us → PySem.W.EachIs (fun u (p : D × V) => RelV p.2 u) us (ds.zip vs)
  | [], vs, us, hl, r => by
    have : vs = [] := List.eq_nil_of_length_eq_zero hl
    subst this
    cases r
    exact .nil
  | d :: ds, [], us, hl, r => by simp at hl
  | d :: ds, v :: vs, _, hl, .cons r t => .cons r (each_zip (by simpa using hl) t)
theorem each_vals : ∀ {us : List Value} {ps : List (D × V)}, PySem.W.EachIs (fun u (p : D × V) => RelV p.2 u) us ps → Vals (ps.map (·.2)) us
  | _, _, .nil => .nil
  | _, _, .cons r t => .cons r (each_vals t)
theorem map_fst_zip {ds : List D} {vs : List V} (hl : vs.length = ds.length) : (ds.zip vs).map (·.1) = ds := by
  have := List.map_fst_zip (l₁ := ds) (l₂ := vs) (by omega)
  exact this
end
def intsK : List Key → Option (List Int)
  | [] => some []
  | .inl i :: ks => (intsK ks).map (i :: ·)
  | .inr _ :: _ => none
def intsKs : List (List Key) → Option (List (List Int))
  | [] => some []
  | k :: ks => match intsK k, intsKs ks with
    | some n, some ns => some (n :: ns)
    | _, _ => none
theorem intsK_of : ∀ {ks : List Key} {ns : List Int}, intsK ks = some ns → ks = ns.map Sum.inl
  | [], ns, e => by cases e; rfl
  | .inl i :: ks, ns, e => by
    unfold intsK at e
    cases q : intsK ks with
    | none => rw [q] at e; cases e
    | some m => rw [q] at e; cases e; rw [intsK_of q]; rfl
  | .inr _ :: _, ns, e => by cases e
theorem intsKs_of : ∀ {ks : List (List Key)} {ns : List (List Int)}, intsKs ks = some ns → ks = ns.map (·.map Sum.inl)
  | [], ns, e => by cases e; rfl
  | k :: ks, ns, e => by
    unfold intsKs at e
    cases q : intsK k with
    | none => rw [q] at e; simp at e
    | some m =>
      cases q2 : intsKs ks with
      | none => rw [q, q2] at e; simp at e
      | some ms =>
        rw [q, q2] at e
        cases e
        rw [intsK_of q, intsKs_of q2]
        rfl
def sortDD : List D → R D
  | [.dit ks _] => match intsKs ks with
    | some ns => if sortOk ns = true then .ok (.lst ((sortL ns).map fun x => D.tup (x.map D.int))) else .stk
    | none => .stk
  | [.dik ks _] => match intsK ks with
    | some ns => if ns.length < 64 then .ok (.lst ((sortI ns).map D.int)) else .stk
    | none => .stk
  | _ => .stk
section
variable {X : Cx}
theorem zip_fst {κ : Type} {ks : List κ} {vs : List V} (hl : ks.length = vs.length) : (ks.zip vs).map (·.1) = ks := by
  have := List.map_fst_zip (l₁ := ks) (l₂ := vs) (by omega)
  exact this
theorem cd_sortDD (hc : X.calm = true) : CallR X (.builtin "sorted") (rDs X.K sortDD) := by
  intro pins s σ H xs us Q I r ⟨P, ds, dz, hm, rs, e, out⟩
  unfold sortDD at e
  split at e
  · rename_i ks vs0
    cases q : intsKs ks with
    | none => rw [q] at e; cases e
    | some ns =>
      rw [q] at e
      simp only at e
      split at e
      · rename_i ok
        cases e
        obtain ⟨v, rfl, r1⟩ := rs.get1
        obtain ⟨a, vs, rfl, hl, rd, h2⟩ := r1
        have ek := intsKs_of q
        refine cr_sortDT hc pins s σ H _ us Q I r ⟨a, _, ns, rfl, rd, by rw [zip_fst hl]; exact ek, fun h2' k hk z => ?_, fun ys p es hy hp => ?_⟩
        · unfold sortOk at ok
          rw [decide_eq_false (by omega), Bool.false_or, List.all_eq_true] at ok
          have := ok k hk
          rw [z] at this
          cases this
        · have sm : Same H (upd H p (.lst ys)) := Same.new hp
          refine out _ _ sm ?_ fun _ b eb => by cases eb; exact hp
          rw [← es, List.map_map]
          refine Rep.newL hm ?_ hp
          have : ∀ (zs : List V), (∀ z ∈ zs, z ∈ ys) → Reps X.K H (zs.map ((fun x => D.tup (x.map D.int)) ∘ keyV H)) P zs := fun zs => by
            induction zs with
            | nil => intro _; exact Reps.nil
            | cons z zs ih =>
              intro hz
              obtain ⟨t, e1, e2⟩ := hy z (hz z (by simp))
              refine Reps.cons ?_ (ih fun y hy => hz y (by simp [hy]))
              show Rep X.K _ (D.tup ((keyV H z).map D.int)) P z
              unfold Rep
              exact ⟨t, _, e1, e2, reps_ints _⟩
          exact this ys fun z hz => hz
      · cases e
  · rename_i ks vs0
    cases q : intsK ks with
    | none => rw [q] at e; cases e
    | some ns =>
      rw [q] at e
      simp only at e
      split at e
      · rename_i ok
        cases e
        obtain ⟨v, rfl, r1⟩ := rs.get1
        obtain ⟨a, vs, rfl, hl, rd, h2⟩ := r1
        have ek := intsK_of q
        refine call_sortedDI hc pins s σ H _ us Q I r ⟨a, _, ns, rfl, rd, by rw [zip_fst hl]; exact ek, ok, fun ys p pm pw hp => ?_⟩
        have ey : ys = sortI ns := sortI_of pm pw
        rw [ey]
        exact out.newL hm (reps_ints _) hp
      · cases e
  · cases e
end
end Y

set_option Elab.async false
set_option linter.all false
set_option maxRecDepth 100000
namespace Y
open PySem PySem.Spec PyProof.Rows L2
def D1 (p : Addr) (Q : VK) (x y : V) (H2 : Hp) : Prop := H2 p = some (.dT []) ∧ ∃ (q : Addr) (k : List Key), x = .ref q ∧ H2 q = some (.tup (k.map kV)) ∧ Q (.ref p) (upd H2 p (.dT [(k, y)]))
end Y

set_option Elab.async false
set_option linter.all false
set_option maxRecDepth 100000
namespace Y
open PySem PySem.Spec PyProof.Rows L2
section
variable {K : PySem.W.Frag} {X : Cx} {P0 : Pr} {O W U : List Nat} {E : EK} {pos : Pos}
end
section
variable {X : Cx} {P0 : Pr} {O W : List Nat} {E : EK} {a b : Expr} {ma mb : EM} {pos : Pos}
theorem ct_din (hu : X.A.units + 1 < cLine) (hb : CEx X P0 O W E b mb) (ha : CEx X P0 O W E a ma) (hm : behindInMarks .In a = false := by rfl) : CT X P0 O W E (.Compare b [.In] [a] pos) (cBl (cDIn false mb ma)) := PT.imp (pt_cmp (pc_din hu hb ha) hm) fun σ H Q h => by
  obtain ⟨ρ, S, h⟩ := tM_bl σ H Q h
  refine ⟨ρ, S, h.of_bind.mono fun ⟨h2, ρ1⟩ q y H1 S1 k1 r2 => ⟨ρ1, S1, (q.keep k1).of_bind.mono fun ⟨h1, ρ2⟩ q2 x H2 S2 k2 r1 => ?_⟩⟩
  obtain ⟨dx, e1, q3⟩ := q2.of_nox
  obtain ⟨dy, e2, q4⟩ := q3.of_nox
  obtain ⟨o, e3, q5⟩ := q4.of_nox
  have rx := r1.d S2 e1
  have ry := (r2.keep S1 k2).d S2 e2
  obtain ⟨c, r, rfl, g, i, _⟩ := getDic_rep rx ry e3
  refine ⟨c, r, rfl, g, ?_⟩
  rw [i]
  exact (out_of (K := X.K) S2 (k1.trans k2) q5).bl
end
@[simp] theorem d_sortDT {ks : List (List Int)} {ds : List D} : sortDD [.dit (ks.map (·.map (Sum.inl : Int → Key))) ds] = if sortOk ks = true then .ok (.lst ((sortL ks).map fun x => D.tup (x.map D.int))) else .stk := by
  have h1 : ∀ n : List Int, intsK (n.map (Sum.inl : Int → Key)) = some n := fun n => by
    induction n with
    | nil => rfl
    | cons x xs ih => rw [List.map_cons]; unfold intsK; rw [ih]; rfl
  have h2 : ∀ ns : List (List Int), intsKs (ns.map (·.map (Sum.inl : Int → Key))) = some ns := fun ns => by
    induction ns with
    | nil => rfl
    | cons x xs ih => rw [List.map_cons]; unfold intsKs; rw [ih, h1]
  show (match intsKs (ks.map (·.map (Sum.inl : Int → Key))) with | some ns => _ | none => _) = _
  rw [h2]
end Y

set_option Elab.async false
set_option linter.all false
set_option maxRecDepth 100000
namespace Y
open PySem PySem.Spec PyProof.Rows L2
section
variable {K : PySem.W.Frag} {P0 : Pr} {O W U : List Nat} {ρ ρ1 ρ2 : Y.Env} {σ σ1 σ3 : L2.St} {H H1 H2 H3 : Hp} {i : Nat} {vs : List Nat}
/-- what the state is apart from the new objects A -/
theorem Sim.apart (S1 : Sim K P0 O W ρ1 σ H1) (S2 : Sim K P0 O W ρ2 σ H2) (kp : ∀ b o, H1 b = some o → ¬ OA W σ b → H2 b = some o) {A : Pr} (hA : ∀ b, A b → H1 b = none ∧ isMut (H2 b))
    (c : ∀ (j : Nat) d, ρ2[j]? = some (some d) → (ρ1[j]? = some (some d) ∧ j ∉ W) ∨ (j ∈ O ∧ d.shallow = true) ∨ d.nl = true) : Sim K (fun b => P0 b ∨ A b) O W ρ2 σ H2 := by
  have fa : ∀ b, FA (fun b => P0 b ∨ A b) O σ b → FA P0 O σ b ∨ H1 b = none := fun b z => by
    rcases z with (z | z) | z
    · exact .inl (.inl z)
    · exact .inr (hA b z).1
    · exact .inl (.inr z)
  have kf : ∀ b o, H1 b = some o → ¬ FA P0 O σ b → H2 b = some o := fun b o e n => kp b o e fun z => n (.inr (S1.oaw z))
  refine ⟨S2.sub, S2.len, fun b z => ?_, fun j d e n => ?_, fun j d e n => ?_, S2.sep, fun a z y => ?_⟩
  · rcases z with (z | z) | z
    · exact S2.dom b (.inl z)
    · exact (hA b z).2
    · exact S2.dom b (.inr z)
  · rcases c j d e with ⟨e0, _⟩ | ⟨z, _⟩ | nl
    · obtain ⟨w, h1, h2⟩ := S1.val j d e0 n
      exact ⟨w, h1, h2.mono d S1.dom kf fa⟩
    · exact absurd z n
    · obtain ⟨w, h1, h2⟩ := S2.val j d e n
      exact ⟨w, h1, h2.nl nl⟩
  · rcases c j d e with ⟨e0, hw⟩ | ⟨_, sh⟩ | nl
    · obtain ⟨w, h1, h2⟩ := S1.own j d e0 n
      refine ⟨w, h1, h2.mono S1.dom kf fa fun a o e1 e2 => ?_⟩
      subst e1
      refine kp a o e2 fun ⟨x, hx, ex⟩ => ?_
      have := S1.sep x j a (S1.sub x hx) n ex h1
      exact hw (this ▸ hx)
    · obtain ⟨w, h1, h2⟩ := S2.own j d e n
      exact ⟨w, h1, h2.shallow sh⟩
    · obtain ⟨w, h1, h2⟩ := S2.own j d e n
      refine ⟨w, h1, ?_⟩
      cases d <;> first | exact h2 | (simp [D.nl] at nl)
  · rcases y with y | y
    · exact S2.sep0 a z y
    · have q := S1.dom a (.inr z)
      rw [(hA a y).1] at q
      exact q
end
section
variable {X : Cx} {P0 : Pr} {O W U : List Nat} {E : EK} {XE : XK} {c e e2 : Expr} {es : List Expr} {ms : AM} {mr : EM} {pos pos2 p p2 p3 px : Pos} {k np i : Nat} {name x : Str} {t : BM} {n : SM} {tl : List Stmt} {tr : D → Bool} {R : PySem.W.Frag → Pr → V → Hp → Prop} {vs qs : List Nat}
def rL (K : PySem.W.Frag) (A : Pr) (v : V) (H : Hp) : Prop := ∃ a ws M, v = .ref a ∧ A a ∧ ws.length < sizeLine ∧ H a = some (.lst ws) ∧ M + ws.length ≤ sizeLine ∧ ∀ w ∈ ws, ∃ b xs, w = V.ref b ∧ A b ∧ b ≠ a ∧ H b = some (.lst xs) ∧ xs.length < M
end
end Y

set_option Elab.async false
set_option linter.all false
set_option maxRecDepth 100000
namespace Y
open PySem PySem.Spec PyProof.Rows L2
section
variable {X : Cx} {pins : List (Addr × Obj)} {σ : L2.St} {H : Hp} {s : Shared} {a b : Addr} {r : Value} {d : V} {k : List Key} {A : Around} {E : Value → Shared → Prop}
end
section
variable {X : Cx} {o e f : Expr} {td ty tx : TE} {apos cpos : Pos}
end
abbrev Grp := List (List Key × List Int)
def gAdd (k : List Key) (s : Int) : Grp → Grp
  | [] => [(k, [s])]
  | (k', l) :: g => if k' = k then (k', l ++ [s]) :: g else (k', l) :: gAdd k s g
/-- the groups lie in objects of their own, new since H1 -/
def GOk (H1 Hx : Hp) : Grp → List Addr → Prop
  | [], bs => bs = []
  | (_, l) :: g, bs => ∃ b r, bs = b :: r ∧ H1 b = none ∧ Hx b = some (.lst (l.map V.int)) ∧ b ∉ r ∧ GOk H1 Hx g r
def kvG : Grp → List Addr → List (List Key × V)
  | (k, _) :: g, b :: bs => (k, .ref b) :: kvG g bs
  | _, _ => []
section
variable {H1 Hx Hy : Hp}
theorem GOk.keep : ∀ {g : Grp} {bs : List Addr}, GOk H1 Hx g bs → (∀ b ∈ bs, Hy b = Hx b) → GOk H1 Hy g bs
  | [], bs, h, _ => h
  | (_, l) :: g, bs, ⟨b, r, e, h1, h2, h3, h4⟩, k => ⟨b, r, e, h1, by rw [k b (by simp [e])]; exact h2, h3, h4.keep fun c hc => k c (by simp [e, hc])⟩
theorem GOk.mem : ∀ {g : Grp} {bs : List Addr}, GOk H1 Hx g bs → ∀ b ∈ bs, H1 b = none ∧ ∃ l, Hx b = some (.lst l)
  | [], bs, h, b, hb => by
    have h : bs = [] := h
    rw [h] at hb
    cases hb
  | (_, l) :: g, bs, ⟨b0, r, e, h1, h2, h3, h4⟩, b, hb => by
    rw [e] at hb
    rcases List.mem_cons.mp hb with rfl | hb
    · exact ⟨h1, _, h2⟩
    · exact h4.mem b hb
theorem GOk.get {k : List Key} {s : Int} : ∀ {g : Grp} {bs : List Addr} {v : V}, GOk H1 Hx g bs → valV (kvG g bs) k = some v → ∃ b l, v = .ref b ∧ b ∈ bs ∧ Hx b = some (.lst (l.map V.int)) ∧ (∃ k', (k', l) ∈ g) ∧ GOk H1 (upd Hx b (.lst (l.map V.int ++ [.int s]))) (gAdd k s g) bs ∧ kvG (gAdd k s g) bs = kvG g bs
  | [], bs, v, h, e => by cases e
  | (k', l) :: g, bs, v, ⟨b, r, eb, h1, h2, h3, h4⟩, e => by
    subst eb
    unfold gAdd
    by_cases c : k' = k
    · have e : valV ((k', V.ref b) :: kvG g r) k = some v := e
      rw [valV_pos c] at e
      cases e
      rw [if_pos c]
      refine ⟨b, l, rfl, by simp, h2, ⟨k', by simp⟩, ⟨b, r, rfl, h1, by rw [upd_same, List.map_append]; rfl, h3, h4.keep fun c hc => upd_ne fun z => h3 (by rw [← z]; exact hc)⟩, rfl⟩
    · have e : valV ((k', V.ref b) :: kvG g r) k = some v := e
      rw [valV_neg c] at e
      obtain ⟨b2, l2, e1, e2, e3, ⟨k2, ek⟩, e4, e5⟩ := h4.get (s := s) e
      rw [if_neg c]
      refine ⟨b2, l2, e1, by simp [e2], e3, ⟨k2, by simp [ek]⟩, ⟨b, r, rfl, h1, by rw [upd_ne fun z => h3 (by rw [z]; exact e2)]; exact h2, h3, e4⟩, ?_⟩
      show (k', V.ref b) :: kvG (gAdd k s g) r = (k', V.ref b) :: kvG g r
      rw [e5]
theorem GOk.len : ∀ {g : Grp} {bs : List Addr}, GOk H1 Hx g bs → (kvG g bs).length = g.length ∧ bs.length = g.length
  | [], bs, h => by
    have h : bs = [] := h
    subst h
    exact ⟨rfl, rfl⟩
  | (k, l) :: g, bs, ⟨b, r, e, _, _, _, h⟩ => by
    subst e
    have := h.len
    exact ⟨by show (kvG g r).length + 1 = _; rw [this.1]; rfl, by simp [this.2]⟩
end
section
variable {K : PySem.W.Frag} {P0 : Pr} {O W U : List Nat} {ρ : Y.Env} {σ σ3 : L2.St} {H1 H3 : Hp} {i : Nat} {sl : List Nat}
end
section
variable {X : Cx} {P0 : Pr} {O W U : List Nat} {E : EK} {tg iter : Expr} {pos pos3 p1 p2 p3 p4 p5 ap ap2 cp cp2 : Pos} {x ya yb ys : Str}
end
end Y

set_option Elab.async false
set_option linter.all false
set_option maxRecDepth 100000
namespace Y
open PySem PySem.Spec PyProof.Rows L2
section
variable {prog : Program} {w : World} {A : Around} {E : Value → Shared → Prop} {s : Shared}
end
section
variable {X : Cx}
end
end Y

set_option Elab.async false
set_option linter.all false
set_option maxRecDepth 100000
namespace Y
open PySem PySem.Spec PyProof.Rows L2
theorem SqL.laid {K : PySem.W.Frag} {H : Hp} {a D : Addr} {xs : List V} {o : HO} (h : SqL K H a xs) (n : H D = none) : SqL K (upd H D o) a xs := by
  rcases h with h | h
  · refine .inl (h.imp (fun e => ?_) fun ⟨o, e⟩ => ⟨o, ?_⟩)
    · rw [upd_ne (ne_of_none e n)]; exact e
    · rw [upd_ne (ne_of_none e n)]; exact e
  · exact .inr h
section
variable {X : Cx} {i j : Nat}
end
end Y

set_option Elab.async false
set_option linter.all false
set_option maxRecDepth 100000
namespace Y
open PySem PySem.Spec PyProof.Rows L2
theorem _root_.L2H.RoomH.units65 {k : Nat} {A : Around} (r : L2H.RoomH k A) : A.units + 65 < cLine := by have := r.un; omega
section
variable {X : Cx} {P0 : Pr} {O W U : List Nat} {i : Nat} {ad : Addr} {a b c e : Expr} {es : List Expr} {ma mb mc : EM} {ms : AM} {bm bn : BM} {pos : Pos}
end
end Y

set_option Elab.async false
set_option linter.all false
set_option maxRecDepth 100000
namespace Y
open PySem PySem.Spec PyProof.Rows L2
theorem _root_.L2H.RoomH.units {k : Nat} {A : Around} (r : L2H.RoomH k A) : A.units + 64 < cLine := by have := r.un; omega
section
variable {X : Cx} {P0 : Pr} {O W U : List Nat} {i j : Nat}
end
end Y

set_option Elab.async false
set_option linter.all false
set_option maxRecDepth 100000
namespace Y
open PySem PySem.Spec PyProof.Rows L2
section
variable {K : PySem.W.Frag} {O W : List Nat} {a : Addr} {o : Obj}
end
section
variable {X : Cx} {P0 : Pr} {O W U : List Nat} {E : EK} {tg e : Expr} {ma : EM}
end
variable {ρ : Env}
end Y

set_option Elab.async false
set_option linter.all false
set_option maxRecDepth 100000
namespace Y
open PySem PySem.Spec PyProof.Rows L2
section
variable {prog : Program} {w : World} {A : Around} {E : Value → Shared → Prop}
end
section
variable {X : Cx}
end
end Y

set_option Elab.async false
set_option linter.all false
set_option maxRecDepth 100000
namespace Y
open PySem PySem.Spec PyProof.Rows L2
section
variable {prog : Program} {w : World} {A : Around} {E : Value → Shared → Prop} {s : Shared} {z TI TO T i1 i2 : Addr} {fp1 fp2 : List Addr} {n1 n2 i : Nat} {P1 P2 : Nat → Value → Prop} {St1 St2 : Nat → Heap → Prop} {f : Bool} {oT : Obj}
end
end Y

set_option Elab.async false
set_option linter.all false
set_option maxRecDepth 100000
namespace Y
open PySem PySem.Spec PyProof.Rows L2
section
variable {prog : Program} {w : World} {A : Around} {E : Value → Shared → Prop} {s : Shared}
end
section
variable {prog : Program} {w : World} {A : Around} {E : Value → Shared → Prop} {s : Shared} {R : Result → Shared → Prop} {z TI TO i1 i2 S : Addr} {fp1 fp2 : List Addr} {n1 n2 i : Nat} {P1 P2 : Nat → Value → Prop} {St1 St2 : Nat → Heap → Prop}
/-- i pairs are out -/
def ZSt (z TI TO i1 i2 S : Addr) (St1 St2 : Nat → Heap → Prop) (i : Nat) (h : Heap) : Prop := IsTupOf2 h TI (.ref i1) (.ref i2) ∧ St1 i h ∧ St2 i h ∧
  ((IsZip h z TI TO .none ∧ ∃ a b, IsTupOf2 h TO a b) ∨ ∃ T f oT, IsZipHeld h z TI TO T f ∧ h.get? T = some oT ∧ T ≠ z ∧ T ≠ i1 ∧ T ≠ i2 ∧ T ≠ S)
theorem ZSt.ty {h : Heap} (x : ZSt z TI TO i1 i2 S St1 St2 i h) : ∃ o, h.get? z = some o ∧ o.cls = .type "zip" := by
  rcases x.2.2.2 with ⟨e, _⟩ | ⟨T, f, oT, e, _⟩
  · exact ⟨_, e, rfl⟩
  · exact ⟨_, e, rfl⟩
theorem ZSt.stay (Sp : ZipSep2 z TI TO i1 i2 fp1 fp2) (D1 : Draws prog w A i1 fp1 n1 P1 St1) (D2 : Draws prog w A i2 fp2 n2 P2 St2) {h h' : Heap} (x : ZSt z TI TO i1 i2 S St1 St2 i h) (nz : S ≠ z) (nI : S ≠ TI) (nO : S ≠ TO) (n1' : S ∉ fp1) (n2' : S ∉ fp2)
    (k : ∀ b o, b ≠ S → h.get? b = some o → h'.get? b = some o) : ZSt z TI TO i1 i2 S St1 St2 i h' := by
  obtain ⟨a, b, c, d⟩ := x
  refine ⟨k _ _ nI.symm a, D1.frame _ _ _ b fun q hq o e => k q o (fun e2 => n1' (e2 ▸ hq)) e, D2.frame _ _ _ c fun q hq o e => k q o (fun e2 => n2' (e2 ▸ hq)) e, ?_⟩
  rcases d with ⟨d1, y1, y2, d2⟩ | ⟨T, f, oT, d1, d2, d3, d4, d5, d6⟩
  · exact .inl ⟨k _ _ nz.symm d1, y1, y2, k _ _ nO.symm d2⟩
  · exact .inr ⟨T, f, oT, k _ _ nz.symm d1, k _ _ d6 d2, d3, d4, d5, d6⟩
end
end Y

set_option Elab.async false
set_option linter.all false
set_option maxRecDepth 100000
namespace Y
open PySem PySem.Spec PyProof.Rows L2
section
variable {X : Cx} {pins : List (Addr × Obj)} {σ : L2.St} {H : Hp} {s : Shared}
end
section
variable {X : Cx} {P0 : Pr} {O W : List Nat} {E : EK} {a b : Expr} {ms : AM} {pos : Pos}
end
variable {ρ : Y.Env}
end Y

set_option Elab.async false
set_option linter.all false
set_option maxRecDepth 100000
namespace Y
open PySem PySem.Spec PyProof.Rows L2
theorem depth_ints : ∀ {ns : List Int}, PyData.depthAll (ns.map PyData.int) = 0
  | [] => rfl
  | n :: ns => by
    rw [List.map_cons, PyData.depthAll, depth_ints]
    rfl
section
variable {X : Cx}
end
end Y

set_option Elab.async false
set_option linter.all false
set_option maxRecDepth 100000
namespace Y
open PySem PySem.Spec PyProof.Rows L2
section
variable {κ : Type} [DecidableEq κ]
end
section
variable {X : Cx} {pins : List (Addr × Obj)} {σ : L2.St} {H : Hp} {s : Shared}
end
end Y

set_option Elab.async false
set_option linter.all false
set_option maxRecDepth 100000
namespace Y
open PySem PySem.Spec PyProof.Rows L2
def RT (H : Hp) (kvs : List (List Key × V)) (ps : List (V × V)) : Prop := Paired (fun (p : List Key × V) (q : V × V) => p.2 = q.2 ∧ ∃ b, q.1 = .ref b ∧ H b = some (.tup (p.1.map kV))) kvs ps
theorem paired_of {α β : Type} {F : α → β → Prop} : ∀ {l : List α} {m : List β}, l.length = m.length → (∀ (j : Nat) a b, l[j]? = some a → m[j]? = some b → F a b) → Paired F l m
  | [], [], _, _ => .nil
  | [], _ :: _, h, _ => by simp at h
  | _ :: _, [], h, _ => by simp at h
  | a :: l, b :: m, h, f => .cons (f 0 a b rfl rfl) (paired_of (by simpa using h) fun j x y e1 e2 => f (j + 1) x y (by simpa using e1) (by simpa using e2))
theorem fstZip {κ β : Type} {ks : List κ} {m : List β} (h : ks.length ≤ m.length) : (ks.zip m).map (·.1) = ks := by
  rw [show (fun x : κ × β => x.1) = Prod.fst from rfl, List.map_fst_zip h]
section
variable {X : Cx} {pins : List (Addr × Obj)} {σ : L2.St} {H : Hp} {s : Shared}
end
section
variable {X : Cx} {P0 : Pr} {O W : List Nat} {E : EK} {a b : Expr} {ms : AM} {pos : Pos}
end
variable {ρ : Y.Env}
end Y

set_option Elab.async false
set_option linter.all false
set_option maxRecDepth 100000
namespace Y
open PySem PySem.Spec PyProof.Rows L2
section
variable {X : Cx} {P0 : Pr} {O W U : List Nat} {E : EK} {e : Expr} {ma : EM} {K : PySem.W.Frag} {pos : Pos}
end
variable {ρ : Y.Env}
end Y

set_option Elab.async false
set_option linter.all false
set_option maxRecDepth 100000
namespace Y
open PySem PySem.Spec PyProof.Rows L2
section
variable {K : PySem.W.Frag} {O W : List Nat} {a : Addr} {o : Obj}
end
section
variable {K : PySem.W.Frag} {P0 : Pr} {O W : List Nat} {E : EK} {ρ : Y.Env} {σ : L2.St} {H : Hp} {m : EM} {Q : VK} {a : Addr} {u : HO}
end
section
variable {X : Cx} {P0 : Pr} {O W : List Nat} {E : EK} {tg : Expr} {pos : Pos}
end
variable {ρ : Y.Env}
end Y

set_option Elab.async false
set_option linter.all false
set_option maxRecDepth 100000
namespace Y.HR
open PySem PySem.Spec PyProof.Rows L2 _root_.HT PySem.W PySem.SeqAt PySem.AutoSeq1 PySem.MeetsSeq PySem.MeetsSeq2 PySem.MeetsSeq3
section
variable {prog : Program} {w : World} {A : Around} {E : Value → Shared → Prop} {s : Shared}
end
end Y.HR
namespace Y
open PySem PySem.Spec PyProof.Rows L2
section
variable {X : Cx} {e k : Expr} {te : TE} {p2 pos : Pos}
end
section
variable {X : Cx} {P0 : Pr} {O W : List Nat} {E : EK} {e k : Expr} {ma : EM} {mk : OM} {p2 pos : Pos}
end
variable {ρ : Y.Env}
end Y

set_option Elab.async false
set_option linter.all false
set_option maxRecDepth 100000
namespace Y
open PySem PySem.Spec PyProof.Rows L2
section
variable {X : Cx} {P0 : Pr} {O W : List Nat} {pos : Pos}
end
end Y

set_option Elab.async false
set_option linter.all false
set_option maxRecDepth 100000
namespace Y
open PySem PySem.Spec PyProof.Rows L2
section
variable {X : Cx} {P0 : Pr} {O W : List Nat} {E : EK} {a : Expr} {ma : EM} {pos : Pos}
end
variable {ρ : Y.Env}
end Y

set_option Elab.async false
set_option linter.all false
set_option maxRecDepth 100000
namespace Y
open PySem PySem.Spec PyProof.Rows L2
section
variable {X : Cx}
end
end Y

set_option Elab.async false
set_option linter.all false
set_option maxRecDepth 100000
namespace Y
open PySem PySem.Spec PyProof.Rows L2
section
variable {K : PySem.W.Frag} {P0 : Pr} {O W U : List Nat} {ρ : Y.Env} {σ : L2.St} {H : Hp} {i : Nat}
theorem Sim.shut (S : Sim K P0 (i :: O) W ρ σ H) {a : Addr} {ds : List D} {vs : List V} (hW : ∀ j ∈ W, j ∈ O) (hi : i ∉ O) (hρ : ρ[i]? = some (some (.lst ds))) (ha : σ[i]? = some (some (.ref a))) (hH : H a = some (.lst vs)) (hr : Reps K H ds (FA P0 (i :: O) σ) vs) :
    Sim K P0 O W ρ σ H := by
  have fa : ∀ b, FA P0 O σ b → FA P0 (i :: O) σ b := fun b z => by
    rcases z with z | ⟨j, hj, e⟩
    · exact .inl z
    · exact .inr ⟨j, List.mem_cons_of_mem _ hj, e⟩
  have oa : OA (i :: O) σ a := ⟨i, by simp, ha⟩
  have na : ¬ FA P0 O σ a := fun z => by
    rcases z with z | ⟨j, hj, e⟩
    · exact S.sep0 a oa z
    · exact hi (by rw [← S.sep j i a (List.mem_cons_of_mem _ hj) (by simp) e ha]; exact hj)
  refine ⟨hW, S.len, fun b z => S.dom b (fa b z), fun j d e n => ?_, fun j d e n => ?_, fun j k b hj hk e1 e2 => ?_, fun b z => ?_⟩
  · by_cases hij : i = j
    · subst hij
      rw [hρ] at e
      cases e
      refine ⟨_, ha, ?_⟩
      unfold Rep
      exact ⟨a, vs, rfl, na, hH, hr.less S.dom fun b z => z.elim (fa b) fun z => .inr (by rw [z]; exact oa)⟩
    · obtain ⟨v, h1, h2⟩ := S.val j d e fun z => (List.mem_cons.mp z).elim (fun q => hij q.symm) n
      exact ⟨v, h1, h2.less S.dom fa⟩
  · obtain ⟨v, h1, h2⟩ := S.own j d e (List.mem_cons_of_mem _ n)
    exact ⟨v, h1, h2.less2 S.dom fa⟩
  · exact S.sep j k b (List.mem_cons_of_mem _ hj) (List.mem_cons_of_mem _ hk) e1 e2
  · obtain ⟨j, hj, e⟩ := z
    exact S.sep0 b ⟨j, List.mem_cons_of_mem _ hj, e⟩
end
section
variable {X : Cx} {P0 : Pr} {O W U : List Nat} {E : EK} {st2 : Stmt} {sts : List Stmt} {m mr : SM}
end
end Y

set_option Elab.async false
set_option linter.all false
set_option maxRecDepth 100000
namespace Y
open PySem PySem.Spec PyProof.Rows L2
section
variable {X : Cx} {P0 : Pr} {O W : List Nat} {E : EK} {e f : Expr} {mk mv : EM}
end
variable {ρ : Y.Env}
end Y

set_option Elab.async false
set_option linter.all false
set_option maxRecDepth 100000
namespace Y
open PySem PySem.Spec PyProof.Rows L2
section
variable {prog : Program} {w : World} {d r : Addr} {es : Array DictEntry} {ep : Nat}
end
section
variable {X : Cx} {o : Expr} {td : TE} {p pos apos mpos : Pos}
end
section
variable {X : Cx} {P0 : Pr} {O W : List Nat} {E : EK}
end
variable {ρ : Y.Env}
end Y

set_option Elab.async false
set_option linter.all false
set_option maxRecDepth 100000
namespace Y
open PySem PySem.Spec PyProof.Rows L2
end Y

set_option Elab.async false
set_option linter.all false
set_option maxRecDepth 100000
namespace Y
open PySem PySem.Spec PyProof.Rows L2
section
variable {K : PySem.W.Frag} {P0 : Pr} {O W U : List Nat} {ρ : Y.Env} {σ : L2.St} {H : Hp} {i : Nat}
end
section
variable {X : Cx} {P0 : Pr} {O W U : List Nat} {E : EK} {st2 : Stmt} {sts : List Stmt} {m mr : SM}
end
section
variable {X : Cx} {P0 : Pr} {O W : List Nat} {E : EK} {pos : Pos}
end
end Y

set_option Elab.async false
set_option linter.all false
set_option maxRecDepth 100000
namespace Y
open PySem PySem.Spec PyProof.Rows L2
section
variable {X : Cx} {P0 : Pr} {O W : List Nat} {E : EK} {a e f : Expr} {ma mb mc : EM}
end
section
variable {K : PySem.W.Frag} {X : Cx} {P0 : Pr} {O W U : List Nat} {E : EK} {e f : Expr} {mi mx : EM} {pos : Pos}
end
variable {ρ : Y.Env}
end Y

set_option Elab.async false
set_option linter.all false
set_option maxRecDepth 100000
namespace Y
open PySem PySem.Spec PyProof.Rows L2
theorem PGs.imp {X : Cx} {e : List Expr} {t t' : TGs} (h : PGs X e t) (i : ∀ v σ H Q, t' v σ H Q → t v σ H Q) : PGs X e t' := by
  cases h with
  | mk h => exact ⟨fun pins s σ H v u Q I r q => h pins s σ H v u Q I r (i v σ H Q q)⟩
section
variable {X : Cx} {P0 : Pr} {O W : List Nat} {pos : Pos}
end
def prsD : List D → Option (List (D × D))
  | [] => some []
  | .tup [k, v] :: ds => (prsD ds).map ((k, v) :: ·)
  | _ :: _ => none
section
variable {κ : Type} [DecidableEq κ]
theorem mergeK_nd : ∀ {more acc : List (Key × V)}, ((acc ++ more).map (·.1)).Nodup → mergeK acc more = acc ++ more
  | [], acc, _ => by simp [mergeK]
  | p :: more, acc, h => by
    have hn : (acc.any fun kv => decide (kv.1 = p.1)) = false := by
      rw [List.any_eq_false]
      intro q hq z
      have z := of_decide_eq_true z
      rw [List.map_append, List.nodup_append] at h
      exact h.2.2 q.1 (List.mem_map.mpr ⟨q, hq, rfl⟩) p.1 (by simp) z
    have e : mergeK acc (p :: more) = mergeK (acc ++ [p]) more := by
      show mergeK (putK acc p.1 p.2) more = _
      unfold putK
      rw [hn]
      rfl
    rw [e, mergeK_nd (by rw [List.append_assoc]; exact h), List.append_assoc]
    rfl
end
theorem prs_rep {K : PySem.W.Frag} {H : Hp} {P : Pr} : ∀ {ds : List D} {vs : List V} {ps : List (D × D)}, Reps K H ds P vs → prsD ds = some ps → ∃ (as : List Addr) (ks ws : List V), vs = as.map V.ref ∧ as.length = ps.length ∧ Reps K H (ps.map (·.1)) P ks ∧ Reps K H (ps.map (·.2)) P ws ∧ ∀ (j : Nat) (a : Addr), as[j]? = some a → ∃ k w, ks[j]? = some k ∧ ws[j]? = some w ∧ SqT K H a [k, w]
  | [], vs, ps, r, e => by
    cases e
    exact ⟨[], [], [], r.nil_iff, rfl, Reps.nil, Reps.nil, fun j a h => by simp at h⟩
  | d :: ds, vs, ps, r, e => by
    obtain ⟨v, us, rfl, r1, r2⟩ := r.cons_iff
    unfold prsD at e
    split at e
    · rename_i h; cases h
    · rename_i k w ds' h
      cases h
      cases q : prsD ds with
      | none => rw [q] at e; cases e
      | some qs =>
        rw [q] at e
        cases e
        unfold Rep at r1
        obtain ⟨a, xs, rfl, h1, h2⟩ := r1
        obtain ⟨k', xs, rfl, k1, h2⟩ := h2.cons_iff
        obtain ⟨w', xs, rfl, w1, h2⟩ := h2.cons_iff
        have := h2.nil_iff
        subst this
        obtain ⟨as, ks, ws, e1, e2, e3, e4, e5⟩ := prs_rep r2 q
        refine ⟨a :: as, k' :: ks, w' :: ws, by rw [e1]; rfl, by simp [e2], Reps.cons k1 e3, Reps.cons w1 e4, fun j b hb => ?_⟩
        cases j with
        | zero =>
          simp at hb
          subst hb
          exact ⟨k', w', rfl, rfl, SqT.of h1⟩
        | succ j => simpa using e5 j b (by simpa using hb)
    · cases e
end Y

set_option Elab.async false
set_option linter.all false
set_option maxRecDepth 100000
namespace Y
open PySem PySem.Spec PyProof.Rows L2 RT
section
variable {prog : Program} {w : World} {A : Around} {E : Value → Shared → Prop} {s : Shared}
end
section
variable {X : Cx}
end
section
variable {X : Cx} {P0 : Pr} {O W : List Nat} {E : EK} {e : Expr} {me : EM} {pos : Pos}
end
variable {ρ : Y.Env}
end Y

set_option Elab.async false
set_option linter.all false
set_option maxRecDepth 100000
namespace Y
open PySem PySem.Spec PyProof.Rows L2
end Y

set_option Elab.async false
set_option linter.all false
set_option maxRecDepth 100000
namespace Y
open PySem PySem.Spec PyProof.Rows L2
abbrev PrT := Addr × List Int
/-- what a set holds of the first i things -/
structure Has (ks : List PrT) (i : Nat) (L : List PrT) : Prop where
  low : ∀ q ∈ L, q ∈ ks.take i
  top : ∀ q ∈ ks.take i, q.2 ∈ L.map (·.2)
theorem Has.none (ks : List PrT) : Has ks 0 [] := ⟨fun q z => (nomatch z), fun q z => by simp at z⟩
theorem take_more {α : Type} {l : List α} {i : Nat} {x : α} (h : l[i]? = some x) : l.take (i + 1) = l.take i ++ [x] := by rw [List.take_add_one, h]; rfl
theorem Has.stay {ks L : List PrT} {i : Nat} {x : PrT} (g : Has ks i L) (h : ks[i]? = some x) (m : x.2 ∈ L.map (·.2)) : Has ks (i + 1) L := by
  refine ⟨fun q z => ?_, fun q z => ?_⟩
  · rw [take_more h]; exact List.mem_append_left _ (g.low q z)
  · rw [take_more h] at z
    rcases List.mem_append.mp z with z | z
    · exact g.top q z
    · rw [List.mem_singleton] at z; rw [z]; exact m
theorem Has.grow {ks L M : List PrT} {i : Nat} {x : PrT} (g : Has ks i L) (h : ks[i]? = some x) (pm : M.Perm (x :: L)) : Has ks (i + 1) M := by
  refine ⟨fun q z => ?_, fun q z => ?_⟩
  · rw [take_more h]
    rcases List.mem_cons.mp (pm.mem_iff.mp z) with rfl | z
    · exact List.mem_append_right _ (by simp)
    · exact List.mem_append_left _ (g.low q z)
  · refine (pm.map (·.2)).mem_iff.mpr ?_
    rw [take_more h] at z
    rcases List.mem_append.mp z with z | z
    · exact List.mem_cons_of_mem _ (g.top q z)
    · rw [List.mem_singleton] at z; rw [z]; exact List.mem_cons_self
section
variable {P : Program} {w : World} {A : Around} {E : Value → Shared → Prop} {s : Shared}
end
section
variable {K : PySem.W.Frag} {X : Cx} {P0 : Pr} {O W : List Nat} {E : EK} {a e : Expr} {ma : EM} {pos : Pos}
end
end Y

set_option Elab.async false
set_option linter.all false
set_option maxRecDepth 100000
namespace Y
open PySem PySem.Spec PyProof.Rows L2
end Y

set_option Elab.async false
set_option linter.all false
set_option maxRecDepth 100000
namespace Y
open PySem PySem.Spec PyProof.Rows L2
section
variable {X : Cx}
end
end Y

set_option Elab.async false
set_option linter.all false
set_option maxRecDepth 100000
namespace Y
open PySem PySem.Spec PyProof.Rows L2
def tpD (x : List Int) : D := .tup (x.map D.int)
def tpP (x : List Int) : PyData := .tuple (x.map PyData.int)
theorem intsOf_inv : ∀ {ds : List D} {ns : List Int}, intsOf ds = some ns → ds = ns.map D.int
  | [], ns, e => by cases e; rfl
  | d :: ds, ns, e => by
    cases d <;> simp [intsOf] at e
    rename_i i
    obtain ⟨m, e1, rfl⟩ := e
    rw [intsOf_inv e1]
    rfl
theorem tupsOf_inv : ∀ {ds : List D} {xs : List (List Int)}, tupsOf ds = some xs → ds = xs.map tpD
  | [], xs, e => by cases e; rfl
  | d :: ds, xs, e => by
    unfold tupsOf at e
    cases e1 : intTup d with
    | none => rw [e1] at e; simp at e
    | some n =>
      cases e2 : tupsOf ds with
      | none => rw [e1, e2] at e; simp at e
      | some ns =>
        rw [e1, e2] at e
        cases e
        cases d <;> simp [intTup] at e1
        rw [tupsOf_inv e2, intsOf_inv e1]
        rfl
theorem toPys_int : ∀ {x : List Int}, toPys (x.map D.int) = x.map PyData.int
  | [] => rfl
  | i :: x => by
    rw [List.map_cons, List.map_cons, toPys, toPys_int]
    rfl
theorem toPys_tp : ∀ {xs : List (List Int)}, toPys (xs.map tpD) = xs.map tpP
  | [] => rfl
  | x :: xs => by
    rw [List.map_cons, List.map_cons, toPys, toPys_tp]
    congr 1
    show PyData.tuple (toPys (x.map D.int)) = _
    rw [toPys_int]
    rfl
theorem lay_int : ∀ {x : List Int}, PyData.canLayAll0 (x.map PyData.int) = true
  | [] => by simp [PyData.canLayAll0]
  | i :: x => by
    have ih := lay_int (x := x)
    simp [PyData.canLayAll0, PyData.canLay0, ih]
theorem lay_tp : ∀ {xs : List (List Int)}, PyData.canLayAll0 (xs.map tpP) = true
  | [] => by simp [PyData.canLayAll0]
  | x :: xs => by
    have ih := lay_tp (xs := xs)
    have := lay_int (x := x)
    simp [PyData.canLayAll0, PyData.canLay0, tpP, ih, this]
theorem alike_int : ∀ {a b : List Int}, PySem.W.alikeAll (a.map PyData.int) (b.map PyData.int) = true
  | [], _ => by simp [PySem.W.alikeAll]
  | _ :: _, [] => by simp [PySem.W.alikeAll]
  | x :: xs, y :: ys => by
    have ih := alike_int (a := xs) (b := ys)
    simp only [List.map_cons, PySem.W.alikeAll, PySem.W.alike, ih, Bool.and_self]
theorem depth_tp : ∀ {xs : List (List Int)}, PyData.depthAll (xs.map tpP) ≤ 2
  | [] => by simp [PyData.depthAll]
  | x :: xs => by
    have ih := depth_tp (xs := xs)
    have h0 := depth_ints (ns := x)
    rw [List.map_cons, PyData.depthAll]
    have : PyData.depth (tpP x) ≤ 2 := by
      unfold tpP
      rw [PyData.depth, h0]
      omega
    omega
theorem lt_tp : ∀ {a b : List Int}, a.length = b.length → PySem.W.dataLt (tpP a) (tpP b) = ltL a b := by
  intro a b h
  unfold tpP
  rw [PySem.W.dataLt_tuple]
  have : ∀ (a b : List Int), a.length = b.length → PyProof.Rows.lexLt itemOrd (PySem.W.keyToksAll (a.map PyData.int)) (PySem.W.keyToksAll (b.map PyData.int)) = ltL a b := by
    intro a
    induction a with
    | nil =>
      intro b h
      cases b with
      | nil =>
        have := PySem.W.lex_pre (PySem.W.keyToksAll ([] : List PyData)) [] []
        rw [List.append_nil] at this
        exact this
      | cons _ _ => simp at h
    | cons x a ih =>
      intro b h
      cases b with
      | nil => simp at h
      | cons y b =>
        have al : PySem.W.alike (.int x) (.int y) = true := by simp [PySem.W.alike]
        rw [List.map_cons, List.map_cons]
        by_cases e : x = y
        · have v1 : PyData.eqv (.int x) (.int y) = true := by simp [PyData.eqv, e]
          rw [PySem.W.dataLt_all_yes al v1, ih b (by simpa using h)]
          unfold ltL
          cases a <;> cases b <;> simp [e, ltL]
        · have v1 : PyData.eqv (.int x) (.int y) = false := by simp [PyData.eqv, e]
          rw [PySem.W.dataLt_all_no al v1, PySem.W.dataLt_int]
          unfold ltL
          rw [if_neg e]
  exact this a b h
theorem tpP_inj {a b : List Int} (h : tpP a = tpP b) : a = b := by
  unfold tpP at h
  injection h with h
  exact (List.map_inj_right fun x y e => by injection e).mp h
theorem vals_atM : ∀ {vs : List V} {us : List Value}, Vals vs us → ∀ (i : Nat) (u : Value), us[i]? = some u → ∃ v, vs[i]? = some v ∧ RelV v u
  | [], us, r, i, u, e => by cases r; simp at e
  | v :: vs, us, r, i, u, e => by
    cases r with
    | cons r t =>
      cases i with
      | zero => simp at e; subst e; exact ⟨v, rfl, r⟩
      | succ i => exact vals_atM t i u (by simpa using e)
section
variable {X : Cx}
end
end Y

set_option Elab.async false
set_option linter.all false
set_option maxRecDepth 100000
namespace Y
open PySem PySem.Spec PyProof.Rows L2
section
variable {X : Cx} {e k : Expr} {te : TE} {p2 pos : Pos}
end
section
variable {X : Cx} {P0 : Pr} {O W : List Nat} {E : EK} {e k : Expr} {ma : EM} {mk : OM} {p2 pos : Pos}
end
variable {ρ : Y.Env}
end Y

set_option Elab.async false
set_option linter.all false
set_option maxRecDepth 100000
namespace Y
open PySem PySem.Spec PyProof.Rows L2
variable {K : PySem.W.Frag} {P0 : Pr} {O W U : List Nat} {E : EK} {ms : AM}
section
variable {X : Cx}
end
variable {ρ : Y.Env}
end Y

set_option Elab.async false
set_option linter.all false
set_option maxRecDepth 100000
namespace Y
open PySem PySem.Spec PyProof.Rows L2
section
variable {X : Cx} {P0 : Pr} {O W U : List Nat} {E : EK} {st2 : Stmt} {sts : List Stmt} {m mr : SM}
end
end Y

set_option Elab.async false
set_option linter.all false
set_option maxRecDepth 100000
namespace Y
open PySem PySem.Spec PyProof.Rows L2
section
variable {X : Cx} {i : Nat} {x : Str}
end
end Y

set_option Elab.async false
set_option linter.all false
set_option maxRecDepth 100000
namespace Y
open PySem PySem.Spec PyProof.Rows L2
section
variable {K : PySem.W.Frag} {O W : List Nat}
end
section
variable {X : Cx} {P0 : Pr} {O W : List Nat} {E : EK} {a b c tg : Expr} {ms : AM} {pos : Pos}
end
end Y

set_option Elab.async false
set_option linter.all false
set_option maxRecDepth 100000
namespace Y
open PySem PySem.Spec PyProof.Rows L2
section
variable {prog : Program} {w : World} {A : Around} {E : Value → Shared → Prop}
end
section
variable {X : Cx}
end
end Y

set_option Elab.async false
set_option linter.all false
set_option maxRecDepth 100000
namespace Y
open PySem PySem.Spec PyProof.Rows L2
section
variable {X : Cx} {P0 : Pr} {O W U : List Nat} {E : EK} {st : Stmt} {m n : SM} {pre tl : List Stmt}
end
section
variable {K : PySem.W.Frag} {P0 : Pr} {O W : List Nat} {ρ1 ρ2 : Y.Env} {σ1 σ2 : L2.St} {H1 H2 : Hp}
end
section
variable {X : Cx} {P0 : Pr} {O W U UU us : List Nat} {E : EK} {XE : XK} {e : Expr} {es : List Expr} {ms : AM} {pos pos2 p px : Pos} {k np i : Nat} {name x : Str} {n n0 : SM} {tl pre : List Stmt} {tr : D → Bool} {R : PySem.W.Frag → Pr → V → Hp → Prop}
def r0 (K : PySem.W.Frag) (A : Pr) (v : V) (H : Hp) : Prop := ∃ a ws b xs, v = .ref a ∧ A a ∧ ws.length < sizeLine ∧ H a = some (.lst ws) ∧ ws[0]? = some (V.ref b) ∧ A b ∧ b ≠ a ∧ H b = some (.lst xs)
end
end Y

set_option Elab.async false
set_option linter.all false
set_option maxRecDepth 100000
namespace Y
open PySem PySem.Spec PyProof.Rows L2
section
variable {K : PySem.W.Frag} {X : Cx} {P0 : Pr} {O W : List Nat} {E : EK} {e : Expr} {es : List Expr} {ms : AM} {pos : Pos}
theorem Out.newF {P : Pr} {H : Hp} {ds : List D} {vs : List V} {Q : VK} {o : Obj} (h : Out K P H (.ftu ds) Q) (hm : ∀ b, P b → isMut (H b)) (hd : o.dict = none) (r : Reps K H ds P vs) {p : Addr} (hp : H p = none) : Q (.ref p) (upd H p (.frz o (.tup vs))) :=
  h _ _ (Same.new hp) (Rep.ftu_of upd_same hd (r.mono ds hm (fun b u e _ => by rw [upd_ne (ne_of_none e hp)]; exact e) fun b z => .inl z)) fun z => by cases z
/-- a display, told as known -/
def tFTup (t : TA) : TE := fun σ H Q => t σ H fun xs H1 => xs.length ≤ sizeLine ∧ ∀ p o, H1 p = none → o.dict = none → Q (.ref p) (upd H1 p (.frz o (.tup xs)))
theorem pe_ftup {x1} {t : TA} (h : PA X es t) : PE X (.Tuple es x1 pos) (tFTup t) := by
  refine ⟨fun pins s σ H Q I hq => ?_⟩
  refine wpAny_Tuple_spliced (thn (h.run pos pins s σ H _ I hq) fun us s1 ⟨xs, H1, I1, r, z, q⟩ => ⟨by rw [← r.length]; exact z, ?_⟩)
  have hf : H1 s1.heap.objs.size = none := I1.hok.fresh (Nat.le_refl _)
  refine ⟨.ref s1.heap.objs.size, upd H1 s1.heap.objs.size (.frz { cls := .type "tuple", data := .seq us.toArray } (.tup xs)), I1.laid (t' := s1.toks) (fun b u e => Heap.get?_push_of_some _ e) (Nat.le_refl _) ?_, rfl, q _ _ hf rfl⟩
  exact ⟨Heap.get?_push_size _ rfl, z, us, r, ⟨_, Heap.get?_push_size _ rfl, rfl, _, rfl⟩⟩
def cFTup (m : AM) : EM := fun ρ => do
  let (hs, ρ1) ← m ρ
  let ds ← (vsOf hs).nox
  if szOk ds.length = true then pure (.fr (.ftu ds), ρ1) else .stk
theorem ce_ftup {k} (h : CA X P0 O W E es ms) : CEx X P0 O W E (.Tuple es k pos) (cFTup ms) := PE.imp (pe_ftup h) fun σ H Q ⟨ρ, S, h⟩ => by
  refine ⟨ρ, S, h.of_bind.mono fun ⟨hs, ρ1⟩ q vs H1 S1 k1 r1 => ?_⟩
  obtain ⟨ds, e1, q⟩ := q.of_nox
  have rr := HdRs.vs r1 e1
  by_cases c : szOk ds.length = true
  · rw [if_pos c] at q
    exact ⟨by rw [rr.length]; exact of_decide_eq_true c, fun p o np hd => (out_of (K := X.K) S1 k1 q).newF S1.dom hd rr np⟩
  · rw [if_neg c] at q
    exact q.elim
end
section
variable {K : PySem.W.Frag} {X : Cx} {P0 : Pr} {O W : List Nat} {E : EK} {o e : Expr} {es : List Expr} {to : TE} {t : TA} {name : Str} {apos cpos : Pos} {id : String} {r : V → List V → Hp → VK → Prop}
end
section
variable {X : Cx}
theorem pairs_ofF {pins : List (Addr × Obj)} {σ : L2.St} {H : Hp} {s : Shared} (I : Inv X pins σ H s) : ∀ {ps : List Addr} {kvs : List (Key × V)}, Paired (fun p kv => SqT X.K H p [kV kv.1, kv.2]) ps kvs →
    ∃ (prs : List (Key × Value)) (psv : List (Value × Value)), KV kvs prs ∧ prs.length = ps.length ∧ psv.length = ps.length ∧ ∀ (j : Nat) (u y : Value), psv[j]? = some (u, y) → ∃ (b : Addr) (k : Key), ps[j]? = some b ∧ IsTup s.heap b #[u, y] ∧ prs[j]? = some (k, y) ∧ keyIs k u = true
  | _, _, .nil => ⟨[], [], .nil, rfl, rfl, fun j u y e => by simp at e⟩
  | _, _, .cons (a := p) (b := kv) h t => by
    obtain ⟨prs, psv, r, hl, hl2, hp⟩ := pairs_ofF I t
    obtain ⟨its, rv, ht, _⟩ := I.tuple h
    obtain ⟨u, y, ei, ru, ry⟩ := vals2 rv
    subst ei
    refine ⟨(kv.1, y) :: prs, (u, y) :: psv, .cons ⟨rfl, ry⟩ r, by rw [List.length_cons, List.length_cons, hl], by rw [List.length_cons, List.length_cons, hl2], fun j u' y' e => ?_⟩
    cases j with
    | zero =>
      have e' : (u, y) = (u', y') := Option.some.inj e
      cases e'
      exact ⟨p, kv.1, rfl, ht, rfl, kV_is (P := X.prog) (w := X.w) ru⟩
    | succ j =>
      obtain ⟨b, k, e1, e2, e3, e4⟩ := hp j u' y' (by simpa using e)
      exact ⟨b, k, by simpa using e1, e2, by simpa using e3, e4⟩
theorem call_dictF (hcalm : X.calm = true) : CallR X (.type "dict") (fun xs H Q => ∃ (a : Addr) (ob : Obj) (ps : List Addr) (kvs : List (Key × V)), xs = [.ref a] ∧ H a = some (.frz ob (.tup (ps.map V.ref))) ∧ ob.dict = none ∧ Paired (fun p kv => SqT X.K H p [kV kv.1, kv.2]) ps kvs ∧
    ∀ p, H p = none → Q (.ref p) (upd H p (.dK (mergeK [] kvs)))) := by
  intro pins s σ H xs us Q I r q
  obtain ⟨a, ob, ps, kvs, ex, hq, hdn, hp, q⟩ := q
  subst ex
  obtain ⟨u, eu, rx⟩ := vals1 r
  subst eu
  cases rx
  obtain ⟨ho, hz, its, rv, o2, ho2, hc2, n, hdat⟩ := I.hok a _ hq
  have ho : s.heap.get? a = some ob := ho
  have eo : ob = o2 := by rw [ho] at ho2; exact Option.some.inj ho2
  subst eo
  have ei := refs_at rv
  subst ei
  rw [List.length_map] at hz
  obtain ⟨prs, psv, rel, hl, hl2, hpr⟩ := pairs_ofF I hp
  have ok : PlainSeq "tuple" s.heap a (ps.map Value.ref).toArray ∧ PairItems s.heap (ps.map Value.ref).toArray (fun j => ps.getD j 0) psv := by
    refine ⟨⟨ob, n, ho, hc2, hdn, hdat⟩, by rw [List.size_toArray, List.length_map, hl2], fun j k v e => ?_⟩
    obtain ⟨b, kk, e1, e2, _, _⟩ := hpr j k v e
    have eb : ps.getD j 0 = b := by rw [List.getD_eq_getElem?_getD, e1]; rfl
    refine ⟨by simp [e1, eb], .inl ?_⟩
    show s.heap.IsTuple (ps.getD j 0) _
    rw [eb]
    exact e2
  refine PySem.call_dict_pairs (knd := mixKind X.prog X.w) (kvs := prs) (PairArg.tuple a (ps.map Value.ref).toArray (fun j => ps.getD j 0) psv) (I.ok.hd hcalm) ok ⟨by rw [hl, hl2], fun i key v e => ?_⟩ (by rw [hl2]; exact hz) fun h' tk hd' k => ?_
  · obtain ⟨b, kk, e1, e2, e3, e4⟩ := hpr i key v e
    exact ⟨kk, e3, e4⟩
  · have hm : (s.heap.objs.size == sysModules) = false := beq_eq_false_iff_ne.mpr (Nat.ne_of_gt I.big)
    have hlen : (mergeK [] kvs).length ≤ sizeLine := by
      refine Nat.le_trans (length_mergeK kvs []) ?_
      rw [List.length_nil, Nat.zero_add, rel.length, hl]
      exact hz
    exact ⟨.ref s.heap.objs.size, upd H s.heap.objs.size (.dK (mergeK [] kvs)), I.laid (t' := tk) (fun b o e => k b o (by simp) e) (Nat.le_refl _) (show ObjOk X.prog X.w _ _ _ (.dK (mergeK [] kvs)) from ⟨hlen, hm, merged [] prs, KV.merge rel .nil, hd'⟩), rfl, q _ (I.hok.fresh (Nat.le_refl _))⟩
def dictFD : List D → R D
  | [.ftu ds] => match prsD ds with
    | some ps => match keysOf (ps.map (·.1)) with
      | some ks => if ks.Nodup then .ok (.dik ks (ps.map (·.2))) else .stk
      | none => .stk
    | none => .stk
  | _ => .stk
theorem cd_dictF (hc : X.calm = true) : CallR X (.type "dict") (rDs X.K dictFD) := by
  intro pins s σ H xs us Q I r ⟨P, ds, dz, hm, rs, e, out⟩
  unfold dictFD at e
  split at e
  · rename_i ds
    cases q : prsD ds with
    | none => rw [q] at e; cases e
    | some ps =>
      rw [q] at e
      dsimp only at e
      cases ek : keysOf (ps.map (·.1)) with
      | none => rw [ek] at e; cases e
      | some ks =>
        rw [ek] at e
        dsimp only at e
        by_cases nd : ks.Nodup
        · rw [if_pos nd] at e
          cases e
          obtain ⟨v, rfl, r1⟩ := rs.get1
          obtain ⟨a, vs, ob, rfl, h1, hdn, h2⟩ := r1.ftu
          obtain ⟨as, kvs, ws, e1, e2, e3, e4, e5⟩ := prs_rep h2 q
          subst e1
          have eks := keysOf_rep e3 ek
          have l1 : kvs.length = ps.length := by rw [e3.length, List.length_map]
          have l2 : ws.length = ps.length := by rw [e4.length, List.length_map]
          have l3 : ks.length = ps.length := by rw [← l1, eks, List.length_map]
          have fz : (ks.zip ws).map (·.1) = ks := fstZip (by omega)
          refine call_dictF hc pins s σ H _ us Q I r ⟨a, ob, as, ks.zip ws, rfl, h1, hdn, paired_of (by rw [List.length_zip]; omega) fun j b p hb hp => ?_, fun p np => ?_⟩
          · obtain ⟨k, w, z1, z2, z3⟩ := e5 j b hb
            obtain ⟨y1, y2⟩ := List.getElem?_zip_eq_some.mp hp
            rw [eks, List.getElem?_map, y1] at z1
            rw [y2] at z2
            cases z1
            cases z2
            exact z3
          · rw [mergeK_nd (acc := []) (by rw [List.nil_append, fz]; exact nd), List.nil_append]
            have kp : ∀ b o, H b = some o → upd H p (.dK (ks.zip ws)) b = some o := fun b o e => by rw [upd_ne (ne_of_none e np)]; exact e
            refine out _ _ kp ?_ fun _ a e => by cases e; exact np
            unfold Rep
            exact ⟨p, ws, rfl, fun z => (hm p z).some np, by omega, .inl upd_same, e4.mono _ hm (fun b o e _ => kp b o e) fun b z => z.elim .inl fun z => .inr (by rw [z]; exact np)⟩
        · rw [if_neg nd] at e
          cases e
  · cases e
end
variable {ρ : Y.Env}
@[simp] theorem e_ftup {m : AM} : cFTup m ρ = (m ρ >>= fun p => (vsOf p.1).nox >>= fun ds => if szOk ds.length = true then R.ok (.fr (.ftu ds), p.2) else .stk) := id rfl
@[simp] theorem d_dictF {ds : List D} : dictFD [.ftu ds] = (match prsD ds with
    | some ps => match keysOf (ps.map (·.1)) with
      | some ks => if ks.Nodup then .ok (.dik ks (ps.map (·.2))) else .stk
      | none => .stk
    | none => .stk) := id rfl
@[simp] theorem d_lenF {x : List D} : lenD [.ftu x] = .ok (.int x.length) := id rfl
@[simp] theorem d_itF {x : List D} : itD (.ftu x) = .ok x := id rfl
@[simp] theorem d_ixF {x : List D} {i : Int} : ixD (.ftu x) (.int i) = match atI x i with | some d => .ok d | none => .stk := id rfl
@[simp] theorem d_listF {x : List D} : listD [.ftu x] = .ok (.lst x) := id rfl
@[simp] theorem isFt_F {ds : List D} : isFt (.ftu ds) = true := id rfl
@[simp] theorem isTup_F {ds : List D} : isTup (.ftu ds) = true := id rfl
@[simp] theorem nlF {ds : List D} : D.nl (.ftu ds) = nls ds := by simp [D.nl]
end Y

set_option Elab.async false
set_option linter.all false
set_option maxRecDepth 100000
set_option maxHeartbeats 4000000
namespace Y
open PySem PySem.Spec PyProof.Rows L2
section
variable {X : Cx}
end
end Y

set_option Elab.async false
set_option linter.all false
set_option maxRecDepth 100000
set_option maxHeartbeats 4000000
namespace Y
open PySem PySem.Spec PyProof.Rows L2
section
variable {prog : Program} {w : World} {A : Around} {E : Value → Shared → Prop} {s : Shared} {R : Result → Shared → Prop} {e it S T : Addr} {fp : List Addr} {n i : Nat} {P : Nat → Value → Prop} {St : Nat → Heap → Prop} {f : Bool} {oT : Obj} {old : Value}
theorem enumH_end {Q : Option Value → Shared → Prop} (D : Draws prog w A.in1 it fp n P St) (he : IsEnumHeld s.heap e it (i : Int) old T f) (hst : St n s.heap)
    (hQ : ∀ h', Heap.ExtBut it s.heap h' → Q none { s with heap := h' }) : wpAny (model prog w) A (pyNext (.ref e)) Q E s := by
  have hT : s.TypeIs (.ref e) "enumerate" := ⟨_, he, rfl⟩
  unfold pyNext
  refine wpAny_bind (wpAny_attempt (wpAny_callSpecial?_slot (name := Str.ofString "__next__") hT PySem.F.slot_enumerate_next
    (wpAny_call_entry PySem.F.slot_enumerate_next hT PySem.F.entry_enumerate_next ?_ (PySem.F.args_enumerate_next_1 _))))
  show wpAny _ _ (field (.ref e) 2 >>= _) _ _ _
  refine wpAny_bind (wpAny_field he rfl (x := .ref it) rfl ?_)
  refine wpAny_bind (D.done _ _ _ hst fun h' x he' hx' => ?_)
  obtain ⟨o, ho, hc⟩ := hx'
  refine wpAny_bind (wpAny_isInstance (T := "StopIteration") (b := true) ⟨o, ho, hc⟩ isSubtype_stop ?_)
  exact wpAny_pure (hQ _ he')
/-- i pairs are out -/
def ESt (e it S : Addr) (St : Nat → Heap → Prop) (i : Nat) (h : Heap) : Prop := St i h ∧
  ((∃ old, IsEnum h e it ((i : Nat) : Int) old) ∨ ∃ old T f oT, IsEnumHeld h e it ((i : Nat) : Int) old T f ∧ h.get? T = some oT ∧ T ≠ e ∧ T ≠ it ∧ T ≠ S)
theorem ESt.ty {h : Heap} (x : ESt e it S St i h) : ∃ o, h.get? e = some o ∧ o.cls = .type "enumerate" := by
  rcases x.2 with ⟨_, y⟩ | ⟨_, _, _, _, y, _⟩
  · exact ⟨_, y, rfl⟩
  · exact ⟨_, y, rfl⟩
theorem ESt.stay (D : Draws prog w A it fp n P St) {h h' : Heap} (x : ESt e it S St i h) (nz : S ≠ e) (n1 : S ∉ fp) (k : ∀ b o, b ≠ S → h.get? b = some o → h'.get? b = some o) : ESt e it S St i h' := by
  obtain ⟨a, d⟩ := x
  refine ⟨D.frame _ _ _ a fun q hq o y => k q o (fun e2 => n1 (e2 ▸ hq)) y, ?_⟩
  rcases d with ⟨old, y⟩ | ⟨old, T, f, oT, y, y2, d3, d4, d5⟩
  · exact .inl ⟨old, k _ _ nz.symm y⟩
  · exact .inr ⟨old, T, f, oT, k _ _ nz.symm y, k _ _ d5 y2, d3, d4, d5⟩
end
end Y

set_option Elab.async false
set_option linter.all false
set_option maxRecDepth 100000
set_option maxHeartbeats 4000000
namespace Y
open PySem PySem.Spec PyProof.Rows L2
section
variable {X : Cx} {pins : List (Addr × Obj)} {σ : L2.St} {H : Hp} {s : Shared}
end
section
variable {X : Cx} {P0 : Pr} {O W : List Nat} {E : EK} {a b : Expr} {ms : AM} {pos : Pos}
end
variable {ρ : Y.Env}
end Y

set_option Elab.async false
set_option linter.all false
set_option maxRecDepth 100000
namespace Y
open PySem PySem.Spec PyProof.Rows L2
section
variable {X : Cx} {P0 : Pr} {O W : List Nat} {E : EK} {k v : Int} {c1 c2} {p1 p2 pos : Pos}
end
end Y

set_option Elab.async false
set_option linter.all false
set_option maxRecDepth 100000
namespace Y
open PySem PySem.Spec PyProof.Rows L2
section
variable {X : Cx} {P0 : Pr} {O W : List Nat} {E : EK} {a e : Expr} {ma mk : EM} {pos : Pos}
end
variable {ρ : Y.Env}
end Y

set_option Elab.async false
set_option linter.all false
set_option maxRecDepth 100000
namespace Y
open PySem PySem.Spec PyProof.Rows L2
section
variable {K : PySem.W.Frag} {P0 : Pr} {O W : List Nat} {ρ : Env} {σ : St} {H : Hp}
theorem Sim.openLs (S : Sim K P0 O W ρ σ H) {i : Nat} {p : Addr} {ds : List D} {vs : List V} (hi : i ∉ O) (hl : i < ρ.length) (hp : H p = none) (r : Reps K H ds (FA P0 O σ) vs) : Sim K P0 (i :: O) W (ρ.set i (some (.lst ds))) (σ.set i (some (.ref p))) (upd H p (.lst vs)) := by
  have hs : i < σ.length := Nat.lt_of_lt_of_le hl S.len
  have np : ¬ FA P0 O σ p := fun z => by have := S.dom p z; rw [hp] at this; exact this
  have gs : ∀ {j : Nat} {b : Addr}, j ∈ i :: O → (σ.set i (some (V.ref p)))[j]? = some (some (.ref b)) → (j = i ∧ b = p) ∨ (j ∈ O ∧ j ≠ i ∧ σ[j]? = some (some (.ref b))) := fun {j b} hj e => by
    by_cases hij : i = j
    · subst hij
      rw [List.getElem?_set_self hs] at e
      cases e
      exact .inl ⟨rfl, rfl⟩
    · rw [List.getElem?_set_ne hij] at e
      exact .inr ⟨(List.mem_cons.mp hj).resolve_left fun z => hij z.symm, fun z => hij z.symm, e⟩
  have fa : ∀ b, FA P0 (i :: O) (σ.set i (some (V.ref p))) b → FA P0 O σ b ∨ b = p := fun b z => by
    rcases z with z | ⟨j, hj, e⟩
    · exact .inl (.inl z)
    · rcases gs hj e with ⟨_, e⟩ | ⟨h1, _, h2⟩
      · exact .inr e
      · exact .inl (.inr ⟨j, h1, h2⟩)
  have sm : Same H (upd H p (.lst vs)) := Same.new hp
  refine ⟨fun j hj => List.mem_cons_of_mem _ (S.sub j hj), by simpa using S.len, fun b z => ?_, fun j d e n => ?_, fun j d e n => ?_, fun j k a hj hk e1 e2 => ?_, fun a z hz => ?_⟩
  · by_cases hb : b = p
    · rw [hb, upd_same]; trivial
    · rw [upd_ne hb]
      rcases fa b z with z | z
      · exact S.dom b z
      · exact absurd z hb
  · have hij : i ≠ j := fun z => n (by simp [z])
    rw [List.getElem?_set_ne hij] at e ⊢
    obtain ⟨v, h1, h2⟩ := S.val j d e fun z => n (List.mem_cons_of_mem _ z)
    exact ⟨v, h1, h2.mono d S.dom (fun b o e _ => sm b o e) fun b z => (fa b z).imp id fun e => by rw [e]; exact hp⟩
  · by_cases hij : i = j
    · subst hij
      rw [List.getElem?_set_self hl] at e
      cases e
      exact ⟨_, List.getElem?_set_self hs, p, vs, rfl, upd_same, r.mono ds S.dom (fun b o e _ => sm b o e) fun b z => (fa b z).imp id fun e => by rw [e]; exact hp⟩
    · rw [List.getElem?_set_ne hij] at e ⊢
      obtain ⟨v, h1, h2⟩ := S.own j d e ((List.mem_cons.mp n).resolve_left fun z => hij z.symm)
      exact ⟨v, h1, h2.mono S.dom (fun b o e _ => sm b o e) (fun b z => (fa b z).imp id fun e => by rw [e]; exact hp) fun a o _ e => sm a o e⟩
  · rcases gs hj e1 with ⟨a1, a2⟩ | ⟨a1, a2, a3⟩
    · rcases gs hk e2 with ⟨b1, b2⟩ | ⟨b1, b2, b3⟩
      · rw [a1, b1]
      · exact absurd (.inr ⟨k, b1, by rw [← a2]; exact b3⟩) np
    · rcases gs hk e2 with ⟨b1, b2⟩ | ⟨b1, b2, b3⟩
      · exact absurd (.inr ⟨j, a1, by rw [← b2]; exact a3⟩) np
      · exact S.sep j k a a1 b1 a3 b3
  · obtain ⟨j, hj, e⟩ := z
    rcases gs hj e with ⟨_, e⟩ | ⟨h1, _, h2⟩
    · exact np (.inl (by rw [← e]; exact hz))
    · exact S.sep0 a ⟨j, h1, h2⟩ hz
end
def sGrowL (i : Nat) (m0 : AM) (m2 m3 mr : SM) : SM := fun ρ => m0 ρ >>= fun p => (vsOf p.1).nox >>= fun ds => if szOk ds.length = true ∧ i < p.2.length then
    (m2 (p.2.set i (some (.lst ds))) >>= fun q => match q.1 with
      | .nx => (m3 q.2 >>= fun q3 => match q3.1 with
        | .nx => ((lstAt i q3.2).nox >>= fun _ => mr q3.2)
        | _ => .stk)
      | _ => .stk) else .stk
section
variable {X : Cx} {P0 : Pr} {O W U : List Nat} {E : EK} {st2 st3 : Stmt} {sts : List Stmt} {es : List Expr} {m0 : AM} {m2 m3 mr : SM}
theorem cs_growL {i : Nat} {x : Str} {p1 p2 p3 : Pos} (hN : X.N.Nodup) (h1 : CA X P0 O W E es m0) (h2 : CS X P0 (i :: O) W U E st2 m2) (h3 : CS X P0 (i :: O) W U E st3 m3) (h4 : CSs X P0 O W U E sts mr) (hW : ∀ j ∈ W, j ∈ O := by decide) (hi : i ∉ O := by decide) (hu : i ∉ U := by decide)
    (hx : X.N[i]? = some x := by rfl) (hl : Loc X.env.scope x := by first | exact Or.inl rfl | exact Or.inr rfl)
    (hf : X.fn x = true ∨ X.env.scope.names.lookup x = some .local := by first | exact .inl rfl | exact .inr rfl)
    (hs : swapsWithSole [.Name x p1] (.List es p2) p3.line X.env = pure false := by rfl) (hw : swappedStores [.Name x p1] (.List es p2) X.env = pure none := by rfl) :
    CSs X P0 O W U E (.Assign [.Name x p1] (.List es p2) p3 :: st2 :: st3 :: sts) (sGrowL i m0 m2 m3 mr) :=
  PSs.imp (pss_cons (ps_asg (pe_lst h1) (pg_name hN hx hl hf) hs hw) (pss_cons h2 (pss_cons h3 h4))) fun D σ H ⟨ρ, S, h⟩ => by
    refine ⟨ρ, S, ((show Res E O σ H (m0 ρ >>= _) _ from h).of_bind.down S.sub).mono fun ⟨hds, ρ1⟩ q vs H1 S1 k1 r1 => ?_⟩
    obtain ⟨ds, e1, q⟩ := q.of_nox
    have rr := HdRs.vs r1 e1
    by_cases c : szOk ds.length = true ∧ i < ρ1.length
    · rw [if_pos c] at q
      obtain ⟨c1, hlen⟩ := c
      refine ⟨by rw [rr.length]; exact of_decide_eq_true c1, fun p hp => ?_⟩
      have t0 : Tr O U σ H σ H1 := Tr.of S.sub k1
      have q := Res.keepT q t0
      have S2 := S1.openLs hi hlen hp rr
      have hs1 : i < σ.length := Nat.lt_of_lt_of_le hlen S1.len
      have o1 : ∀ {b : Addr}, OA (i :: O) (σ.set i (some (V.ref p))) b → OA O σ b ∨ b = p := fun {b} ⟨j, hj, e⟩ => by
        by_cases hij : i = j
        · subst hij
          rw [List.getElem?_set_self hs1] at e
          cases e
          exact .inr rfl
        · rw [List.getElem?_set_ne hij] at e
          exact .inl ⟨j, (List.mem_cons.mp hj).resolve_left fun q => hij q.symm, e⟩
      have np : ∀ {b : Addr} {o : HO}, H1 b = some o → b ≠ p := fun e q => by rw [q, hp] at e; cases e
      refine ⟨ρ1.set i (some (.lst ds)), S2, ?_⟩
      have w1 := q.of_bind.chg (O1 := i :: O) (σ1 := σ.set i (some (V.ref p))) (H1 := upd H1 p (.lst vs)) fun H' k => ⟨fun b o e n => k.keep b o (by rw [upd_ne (np e)]; exact e) fun q => (o1 q).elim n fun q => np e q, fun b e => k.some b (by
        by_cases hb : b = p
        · rw [hb, upd_same]; intro q; cases q
        · rw [upd_ne hb]; exact e)⟩
      refine w1.mono fun ⟨f, ρ2⟩ q σ2 H2 S3 t2 l2 => ?_
      cases f with
      | bk => exact q.elim
      | ct => exact q.elim
      | rt hd => exact q.elim
      | nx =>
        refine ⟨ρ2, S3, ?_⟩
        have w2 := (show Res E O σ H1 (m3 ρ2 >>= _) _ from q).of_bind.chg (O1 := i :: O) (σ1 := σ2) (H1 := H2) fun H' k => ⟨fun b o e n => k.keep b o (t2.keep b o (by rw [upd_ne (np e)]; exact e) fun q => (o1 q).elim n fun q => np e q) fun q => (t2.own b q).elim (fun q => (o1 q).elim n fun q => np e q) fun q => (by rw [upd_ne (np e), e] at q; cases q), fun b e => k.some b (t2.some b (by
          by_cases hb : b = p
          · rw [hb, upd_same]; intro q; cases q
          · rw [upd_ne hb]; exact e))⟩
        refine w2.mono fun ⟨f, ρ3⟩ q σ3 H3 S4 t3 l3 => ?_
        have t23 := t2.trans t3
        cases f with
        | bk => exact q.elim
        | ct => exact q.elim
        | rt hd => exact q.elim
        | nx =>
          obtain ⟨ds3, e3, q⟩ := Res.of_nox (show Res E O σ H1 ((lstAt i ρ3).nox >>= fun _ => mr ρ3) _ from q)
          obtain ⟨a, ws, ha, hH, hr⟩ := S4.lst (i := i) (by simp) (lstAt_ok e3)
          have S5 := S4.shut hW hi (lstAt_ok e3) ha hH hr
          have t4 : Tr O U σ H1 σ3 H3 := by
            refine ⟨fun b o e n => ?_, fun b e => ?_, fun b ⟨j, hj, e⟩ => ?_, fun j hj => ?_⟩
            · exact t23.keep b o (by rw [upd_ne (np e)]; exact e) fun q => (o1 q).elim n fun q => np e q
            · refine t23.some b ?_
              by_cases hb : b = p
              · rw [hb, upd_same]; intro q; cases q
              · rw [upd_ne hb]; exact e
            · rcases t23.own b ⟨j, List.mem_cons_of_mem _ hj, e⟩ with z | z
              · rcases o1 z with z | z
                · exact .inl z
                · exact .inr (by rw [z]; exact hp)
              · refine .inr ?_
                by_cases hb : b = p
                · rw [hb]; exact hp
                · rw [upd_ne hb] at z; exact z
            · rw [t23.unch j hj, List.getElem?_set_ne fun q => hu (by rw [q]; exact hj)]
          have l5 : σ3.length = σ.length := by rw [l3, l2, List.length_set]
          refine ⟨ρ3, S5, (Res.keepT q t4).mono fun ⟨f2, ρ4⟩ q2 σ4 H4 S6 t5 l6 => ?_⟩
          have q3 := q2 σ4 H4 S6 ((t0.trans t4).trans t5) (l6.trans l5)
          cases f2 with
          | nx => exact q3
          | bk => exact q3
          | ct => exact q3
          | rt hd => exact fun v r => q3 v (r.back (t0.trans t4).some)
    · rw [if_neg c] at q
      exact q.elim
end
@[simp] theorem e_growL {i : Nat} {m0 : AM} {m2 m3 mr : SM} {ρ : Y.Env} : sGrowL i m0 m2 m3 mr ρ = (m0 ρ >>= fun p => (vsOf p.1).nox >>= fun ds => if szOk ds.length = true ∧ i < p.2.length then
    (m2 (p.2.set i (some (.lst ds))) >>= fun q => match q.1 with
      | .nx => (m3 q.2 >>= fun q3 => match q3.1 with
        | .nx => ((lstAt i q3.2).nox >>= fun _ => mr q3.2)
        | _ => .stk)
      | _ => .stk) else .stk) := id rfl
end Y

set_option Elab.async false
set_option linter.all false
set_option maxRecDepth 100000
namespace Y
open PySem PySem.Spec PyProof.Rows L2
def sRetO (i : Nat) (ms : AM) : SM := fun ρ => ms ρ >>= fun p => match p.1 with
  | [h, .ow j] => if j = i then h.v.nox >>= fun d => (lstAt i p.2).nox >>= fun ds => R.ok (Fl.rt (.fr (.tup [d, .lst ds])), p.2.set i none) else .stk
  | _ => .stk
section
variable {X : Cx} {P0 : Pr} {O W U : List Nat} {E : EK} {e e2 : Expr} {ms : AM} {pos p2 : Pos} {k i : Nat}
theorem cs_retO (h : CA X P0 O W E [e, e2] ms) (hi : i ∈ O := by decide) (hu : i ∉ U := by decide) : CS X P0 O W U E (.Return (some (.Tuple [e, e2] k p2)) pos) (sRetO i ms) := PS.imp (ps_ret (pe_tup h)) fun D σ H ⟨ρ, S, h⟩ => by
  refine ⟨ρ, S, ((show Res E O σ H (ms ρ >>= _) _ from h).of_bind.down S.sub).mono fun ⟨hs, ρ1⟩ q vs H1 S1 k1 r1 => ?_⟩
  match hs, r1, q with
  | [h1, .ow j], r1, q =>
    obtain ⟨v, ws, rfl, t1, t2⟩ := r1
    obtain ⟨w, us, rfl, t3, t4⟩ := t2
    have t4 : us = [] := t4
    subst t4
    obtain ⟨_, t5⟩ := t3
    by_cases c : j = i
    · subst c
      simp only [if_true] at q
      obtain ⟨d, e1, q⟩ := Res.of_nox q
      obtain ⟨ds, e3, q⟩ := q.of_nox
      obtain ⟨l, vs2, ha, hH, hr⟩ := S1.lst hi (lstAt_ok e3)
      rw [ha] at t5
      cases t5
      have rd : Rep X.K H1 d (FA P0 O σ) v := by
        cases h1 with
        | fr d' => cases e1; exact t1.1
        | vl d' => cases e1; exact t1
        | ow j' => cases e1
      refine ⟨by show 2 ≤ sizeLine; decide, fun p hp => ?_⟩
      have ge : ∀ {a : Nat} {b : Addr}, (σ.set j none)[a]? = some (some (V.ref b)) → a ≠ j ∧ σ[a]? = some (some (.ref b)) := fun {a b} z => by
        by_cases c : j = a
        · subst c
          rw [List.getElem?_set] at z
          split at z
          · split at z <;> cases z
          · exact absurd rfl ‹_›
        · rw [List.getElem?_set_ne c] at z
          exact ⟨fun z => c z.symm, z⟩
      have oa : ∀ {b : Addr}, OA O (σ.set j none) b → OA O σ b := fun {b} ⟨a, ha, z⟩ => ⟨a, ha, (ge z).2⟩
      have fa : ∀ b, FA P0 O (σ.set j none) b → FA P0 O σ b := fun b z => z.imp id oa
      have npb : ∀ {b : Addr} {o : HO}, H1 b = some o → b ≠ p := fun z y => by rw [y, hp] at z; cases z
      have kp : ∀ b o, H1 b = some o → upd H1 p (.tup [v, .ref l]) b = some o := fun b o z => by rw [upd_ne (npb z)]; exact z
      have nl : ¬ FA P0 O (σ.set j none) l := fun z => by
        rcases z with z | ⟨a, ha2, z⟩
        · exact S1.sep0 l ⟨j, hi, ha⟩ z
        · obtain ⟨z1, z2⟩ := ge z
          exact z1 (S1.sep a j l ha2 hi z2 ha)
      have dom' : ∀ b, FA P0 O (σ.set j none) b → isMut (upd H1 p (.tup [v, .ref l]) b) := fun b z => by
        have m := S1.dom b (fa b z)
        cases e : H1 b with
        | none => rw [e] at m; exact m.elim
        | some o => rw [kp b o e, ← e]; exact m
      have SS : Sim X.K P0 O W (ρ1.set j none) (σ.set j none) (upd H1 p (.tup [v, .ref l])) := by
        refine ⟨S1.sub, by simpa using S1.len, dom', fun a d z n => ?_, fun a d z n => ?_, fun a b x ha hb z1 z2 => S1.sep a b x ha hb (ge z1).2 (ge z2).2, fun a z => S1.sep0 a (oa z)⟩
        · have ne : j ≠ a := fun y => n (by rw [← y]; exact hi)
          rw [List.getElem?_set_ne ne] at z ⊢
          obtain ⟨w, w1, w2⟩ := S1.val a d z n
          exact ⟨w, w1, w2.mono d S1.dom (fun b o y _ => kp b o y) fun b z => .inl (fa b z)⟩
        · by_cases c : j = a
          · subst c
            rw [List.getElem?_set] at z
            split at z
            · split at z <;> cases z
            · exact absurd rfl ‹_›
          · rw [List.getElem?_set_ne c] at z ⊢
            obtain ⟨w, w1, w2⟩ := S1.own a d z n
            exact ⟨w, w1, w2.mono S1.dom (fun b o y _ => kp b o y) (fun b z => .inl (fa b z)) fun x o _ y => kp x o y⟩
      have tr : Tr O U σ H (σ.set j none) (upd H1 p (.tup [v, .ref l])) := by
        have t0 : Tr O U σ H σ H1 := Tr.of S.sub k1
        refine ⟨fun b o z n => kp b o (t0.keep b o z n), fun b z => ?_, fun b z => .inl (oa z), fun a ha => List.getElem?_set_ne fun y => hu (by rw [y]; exact ha)⟩
        have := t0.some b z
        cases e : H1 b with
        | none => exact absurd e this
        | some o => rw [kp b o e]; intro y; cases y
      refine q (σ.set j none) _ SS tr (by simp) (.ref p) ⟨?_, fun m => by cases m⟩
      unfold Rep
      refine ⟨p, [v, .ref l], rfl, upd_same, Reps.cons (rd.mono d S1.dom (fun b o y _ => kp b o y) fun b z => .inl (fa b z)) (Reps.cons ?_ Reps.nil)⟩
      unfold Rep
      exact ⟨l, vs2, rfl, nl, kp _ _ hH, hr.mono ds S1.dom (fun b o y _ => kp b o y) fun b z => .inl (z.elim (fa b) fun z => by rw [z]; exact .inr ⟨j, hi, ha⟩)⟩
    · have q2 := q
      simp only [if_neg c] at q2
      exact q2.elim
  | [], _, q => exact q.elim
  | [_], _, q => exact q.elim
  | [_, .fr _], _, q => exact q.elim
  | [_, .vl _], _, q => exact q.elim
  | _ :: .ow _ :: _ :: _, _, q => exact q.elim
  | _ :: .fr _ :: _ :: _, _, q => exact q.elim
  | _ :: .vl _ :: _ :: _, _, q => exact q.elim
end
@[simp] theorem e_retO {i : Nat} {ms : AM} {ρ : Y.Env} : sRetO i ms ρ = (ms ρ >>= fun p => match p.1 with
  | [h, .ow j] => if j = i then h.v.nox >>= fun d => (lstAt i p.2).nox >>= fun ds => R.ok (Fl.rt (.fr (.tup [d, .lst ds])), p.2.set i none) else .stk
  | _ => .stk) := id rfl
end Y

set_option Elab.async false
set_option linter.all false
set_option maxRecDepth 100000
namespace Y
open PySem PySem.Spec PyProof.Rows L2
section
variable {X : Cx} {P0 : Pr} {O W U : List Nat} {E : EK} {i : Nat} {x : Str}
end
end Y

set_option Elab.async false
set_option linter.all false
set_option maxRecDepth 100000
namespace Y
open PySem PySem.Spec PyProof.Rows L2
section
variable {K : PySem.W.Frag} {X : Cx} {P0 : Pr} {O W U : List Nat} {E : EK} {a b e : Expr} {ma mb : EM} {pos : Pos}
end
def sStk : SM := fun _ => .stk
theorem cs_stk1 {X : Cx} {P0 : Pr} {O W U : List Nat} {E : EK} {st : Stmt} : CS X P0 O W U E st sStk := ⟨fun pins s σ H D I ⟨ρ, S, h⟩ => h.elim⟩
variable {ρ : Y.Env}
@[simp] theorem e_stk : sStk ρ = .stk := id rfl
end Y

set_option Elab.async false
set_option linter.all false
set_option maxRecDepth 100000
namespace Y
open PySem PySem.Spec PyProof.Rows L2
section
variable {X : Cx} {pins : List (Addr × Obj)} {σ : L2.St} {H : Hp} {s : Shared}
theorem inv_hid (I : Inv X pins σ H s) {i : Nat} {x : Str} {v : V} (hx : X.N[i]? = some x) (nv : ¬ Vis X.env.scope x) : Inv X pins (σ.set i (some v)) H s := by
  obtain ⟨m, hn, hl⟩ := I.loc
  refine { I with loc := ⟨m, hn, fun j y w e1 e2 e3 => ?_⟩, len := by rw [List.length_set]; exact I.len }
  by_cases c : i = j
  · subst c
    rw [hx] at e1
    cases e1
    exact absurd e3 nv
  · rw [List.getElem?_set_ne c] at e2
    exact hl j y w e1 e2 e3
theorem pss_hid {sts : List Stmt} {t : TS} (h : PSs X sts t) {i : Nat} {x : Str} (hx : X.N[i]? = some x) (nv : ¬ Vis X.env.scope x) (v : V) : PSs X sts (fun D σ H => t D (σ.set i (some v)) H) :=
  ⟨fun pins s σ H D I q => h.run pins s _ H D (inv_hid I hx nv) q⟩
end
theorem start_snoc {N : List Str} {vs : List V} {v : V} (h : vs.length < N.length) : (L2.start N vs).set vs.length (some v) = L2.start N (vs ++ [v]) := by
  unfold L2.start
  rw [List.set_append_right _ _ (by simp), List.map_append, List.length_append, List.append_assoc]
  congr 1
  obtain ⟨k, hk⟩ : ∃ k, N.length - vs.length = k + 1 := ⟨N.length - vs.length - 1, by omega⟩
  rw [hk, List.length_map, Nat.sub_self, List.replicate_succ, List.set_cons_zero]
  have : N.length - (vs.length + [v].length) = k := by simp; omega
  rw [this]
  rfl
/-- what a def with a hidden slot promises; the slot's datum is the last one of g -/
def spT (K : PySem.W.Frag) (mg : Str → Option Value) (np : Nat) (O : List Nat) (g : Fn) : Sp := fun vs H Q E => vs.length = np ∧ ∃ v, spD K mg (np + 1) O g (vs ++ [v]) H Q E
structure GloT (P : Program) (w : World) (K : PySem.W.Frag) (mg : Str → Option Value) (base : Heap) (name : Str) (k np : Nat) (O : List Nat) (g : Fn) : Prop where
  ex : ∃ f fd ps, mg name = some (.ref f) ∧ PySem.W.keepIn K (.ref f) = true ∧ Binds K fd ps [] ∧ ps.length = np ∧ FnOk P w K mg base (L2N.CX P w) k f fd ps (spT K mg np O g)
section
variable {K : PySem.W.Frag} {mg : Str → Option Value} {P0 : Pr} {O Oc W U : List Nat} {ρ : Env} {σ : St} {H H' : Hp} {d : D} {v : V} {np n : Nat}
theorem fnD_okT {P : Program} {w : World} {base : Heap} {x qual : Str} {st : Stmt} {f : Addr} {fd : FuncData} {N ps : List Str} {k : Nat} {m : SM} {hx : Str} (F : Fun K x qual st f fd) (S : FnScope N ps (defScope st)) (hid : N[np]? = some hx) (nv : (defScope st).names.lookup hx = none) (hp : ps.length = np) (hn : N.length = n) (hO : ∀ i, i ∈ O ↔ i ∈ Oc ∧ i < np + 1) (hW : ∀ i ∈ W, i ∈ Oc) (hU : ∀ i ∈ O, i ∈ U)
    (hb : ∀ (cdv : Value) (A : Around) (outer : List PySem.Env) (s : Shared) (H : Hp) (E : XK) (P0 : Pr), Room k (A.deeper (envOfC qual (defScope st) s.heap.objs.size f cdv)) → CSs (cxOf (L2N.CX P w) P w K mg base N qual (defScope st) f cdv A outer s H E) P0 Oc W U (exE mg E) (defBody st) m) :
    FnOk P w K mg base (L2N.CX P w) (k + 1) f fd ps (spT K mg np O (fnD (np + 1) n O m)) := by
  refine okN F S (fun vs H Q E h => by rw [h.1, hp]) fun cdv A outer s H vs0 Q E hr h => ?_
  obtain ⟨hl0, v, hl, ds, P0, S0, hd, h⟩ := h
  have nv' : ¬ Vis (defScope st) hx := fun z => by rcases z with z | z | z <;> rw [nv] at z <;> cases z
  refine ⟨_, pss_hid (hb cdv A outer s H E P0 hr) hid nv' v, ?_⟩
  have hnp : np < N.length := (List.getElem?_eq_some_iff.mp hid).1
  show (∃ ρ, Sim K P0 Oc W ρ ((L2.start N vs0).set np (some v)) H ∧ _)
  rw [← hl0, start_snoc (by rw [hl0]; exact hnp)]
  generalize vs0 ++ [v] = vs at *
  refine ⟨_, sim_start S0 hO hW hl hd hn, ?_⟩
  have oa := fun b => OA_start (N := N) hO hl b
  have kO : ∀ {H'}, Keep Oc (L2.start N vs) H H' → Keep O (vs.map some) H H' := fun {H'} k => ⟨fun b o e nn => k.keep b o e fun z => nn ((oa b).mp z), k.some⟩
  unfold fnD at h
  cases em : m (ds.map some ++ List.replicate (n - (np + 1)) none) with
  | stk => rw [em] at h; exact h.elim
  | er c xs => rw [em] at h; exact fun H' kp => h H' (kO kp)
  | ok p =>
    obtain ⟨fl, ρ1⟩ := p
    rw [em] at h
    obtain ⟨hh, e1, h⟩ := Res.of_nox (show Res (exE mg E) O (vs.map some) H ((retH (np + 1) fl ρ1).nox >>= _) _ from h)
    intro σ' H' S' t' l'
    have h : ∀ v H', Keep O (vs.map some) H H' → Sim K P0 O [] (outs O (np + 1) ρ1) (vs.map some) H' → HdR K P0 O H (vs.map some) H' hh v → Q v H' := h
    have un : ∀ i ∈ O, σ'[i]? = (L2.start N vs)[i]? := fun i hi => t'.unch i (hU i hi)
    have pre : ∀ {i : Nat} {v : V}, i ∈ O → (σ'[i]? = some (some v) ↔ (vs.map some)[i]? = some (some v)) := fun {i v} hi => by
      rw [un i hi]
      exact ⟨fun e => map_get.mpr (start_get e), fun e => start_of (map_get.mp e)⟩
    have oO : ∀ b, OA O (vs.map some) b → OA Oc σ' b := fun b ⟨i, hi, e⟩ => ⟨i, ((hO i).mp hi).1, (pre hi).mpr e⟩
    have fa : ∀ b, FA P0 O (vs.map some) b → FA P0 Oc σ' b := fun b z => z.imp id (oO b)
    have kk : Keep O (vs.map some) H H' := ⟨fun b o e nn => t'.keep b o e fun z => nn ((oa b).mp z), t'.some⟩
    have so : Sim K P0 O [] (outs O (np + 1) ρ1) (vs.map some) H' := by
      refine ⟨fun _ z => (nomatch z), by unfold outs; simp [hl], fun b z => S'.dom b (fa b z), fun i d e nn => absurd (outs_get e).1 nn, fun i d e hi => ?_, S0.sep, S0.sep0⟩
      obtain ⟨_, _, e2⟩ := outs_get e
      obtain ⟨v, h1, h2⟩ := S'.own i d e2 ((hO i).mp hi).1
      exact ⟨v, (pre hi).mp h1, h2.less S'.dom fa⟩
    cases fl with
    | bk => cases e1
    | ct => cases e1
    | nx => cases e1; exact h .non H' kk so ⟨by unfold Rep; rfl, fun z => by cases z⟩
    | rt hd' =>
      intro v r
      cases hd' with
      | fr d => cases e1; exact h v H' kk so ⟨r.1.less S'.dom fa, r.2⟩
      | vl d => cases e1; exact h v H' kk so (Rep.less S'.dom r fa)
      | ow i =>
        have e1 : (if np + 1 ≤ i then (do
          let d ← (look i ρ1).nox
          pure (Hd.fr d)) else .stk) = R.ok hh := e1
        by_cases hi : np + 1 ≤ i
        · rw [if_pos hi] at e1
          obtain ⟨d, e2, e1⟩ := R.ok_of e1
          cases e1
          have e2 := look_some (R.nox_of e2)
          obtain ⟨v', h1, h2⟩ := S'.own i d e2 r.1
          have q : σ'[i]? = some (some v) := r.2
          rw [q] at h1
          cases h1
          have no : ∀ a, v = .ref a → ¬ OA O (vs.map some) a := fun a e z => by
            obtain ⟨j, hj, ej⟩ := z
            have := S'.sep i j a r.1 ((hO j).mp hj).1 (by rw [q, e]) ((pre hj).mpr ej)
            have := ((hO j).mp hj).2
            omega
          refine h v H' kk so ⟨h2.rep S'.dom fa fun a e => ⟨fun z => ?_, .inr ⟨i, r.1, by rw [q, e]⟩⟩, fun _ a e => ?_⟩
          · rcases z with z | z
            · exact S'.sep0 a ⟨i, r.1, by rw [q, e]⟩ z
            · exact no a e z
          · rcases t'.own a ⟨i, r.1, by rw [q, e]⟩ with z | z
            · exact absurd ((oa a).mp z) (no a e)
            · exact z
        · rw [if_neg hi] at e1; cases e1
end
theorem gloT_mk {P : Program} {w : World} {K : PySem.W.Frag} {mg : Str → Option Value} {base : Heap} {k np n : Nat} {O : List Nat} {x : Str} {st : Stmt} {N ps : List Str} {Oc W U : List Nat} {m : SM} {hx : Str} (F : Def K mg x st) (S : FnScope N ps (defScope st)) (hid : N[np]? = some hx) (nv : (defScope st).names.lookup hx = none)
    (hb : ∀ (f : Addr) (cdv : Value) (A : Around) (outer : List PySem.Env) (s : Shared) (H : Hp) (E : XK) (P0 : Pr), Room k (A.deeper (envOfC x (defScope st) s.heap.objs.size f cdv)) → CSs (cxOf (L2N.CX P w) P w K mg base N x (defScope st) f cdv A outer s H E) P0 Oc W U (exE mg E) (defBody st) m)
    (bi : ∀ (kV doc pm : Value) (an : Option Addr) (cdv ct : Value) (us : List Value), us.length = ps.length → bindArgs (PySem.W.fnOf x x (defArgs st) (defBody st) (defScope st) .none kV doc pm an cdv ct) ⟨us, []⟩ = Pure.pure (ps.zip us))
    (hp : ps.length = np := by rfl) (hn : N.length = n := by rfl) (hO : O = Oc.filter (fun i => decide (i < np + 1)) := by rfl) (hW : ∀ i ∈ W, i ∈ Oc := by decide) (hU : ∀ i ∈ O, i ∈ U := by decide) : GloT P w K mg base x (k + 1) np O (fnD (np + 1) n O m) := by
  obtain ⟨f, fd, hm, F⟩ := F.ex
  exact ⟨f, fd, ps, hm, F.kp, F.binds bi, hp, fnD_okT F S hid nv hp hn (fun i => by rw [hO, List.mem_filter, decide_eq_true_eq]) hW hU fun cdv A outer s H E P0 hr => hb f cdv A outer s H E P0 hr⟩
theorem GloT.mono {P : Program} {w : World} {K : PySem.W.Frag} {mg : Str → Option Value} {base : Heap} {name : Str} {k np : Nat} {O : List Nat} {g : Fn} {k' : Nat} (G : GloT P w K mg base name k np O g) (h : k ≤ k' := by decide) : GloT P w K mg base name k' np O g :=
  let ⟨f, fd, ps, h1, h2, h3, h4, F⟩ := G.ex
  ⟨f, fd, ps, h1, h2, h3, h4, F.mono h⟩
def addT (t : Nat) (m : AM) : AM := fun ρ => do
  let (hs, ρ1) ← m ρ
  let _ ← (look t ρ1).nox
  pure (hs ++ [.ow t], ρ1)
section
variable {X : Cx} {P0 : Pr} {O Oc W U : List Nat} {E : EK} {XE : XK} {e : Expr} {es : List Expr} {ms : AM} {pos : Pos} {k np : Nat} {name : Str} {pr : List (Nat × Nat)} {t : Nat}
theorem alen_addT (hl : ALen ms np) : ALen (addT t ms) (np + 1) := fun ρ hs ρ1 e => by
  unfold addT at e
  obtain ⟨⟨hs0, ρ0⟩, e1, e⟩ := R.ok_of e
  obtain ⟨d, e2, e⟩ := R.ok_of e
  cases e
  rw [List.length_append, hl ρ _ _ e1]
  rfl
theorem hdrs_snoc {K : PySem.W.Frag} {σ : L2.St} {Hs H : Hp} {h : Hd} {v : V} : ∀ {hs : List Hd} {vs : List V}, HdRs K P0 O Hs σ H hs vs → HdR K P0 O Hs σ H h v → HdRs K P0 O Hs σ H (hs ++ [h]) (vs ++ [v])
  | [], vs, r, r2 => by
    have r : vs = [] := r
    subst r
    exact ⟨v, [], rfl, r2, rfl⟩
  | h0 :: hs, _, ⟨w, ws, e0, r1, r3⟩, r2 => by
    subst e0
    exact ⟨w, ws ++ [v], rfl, r1, hdrs_snoc r3 r2⟩
theorem tM_callT {g : Fn} (hE : ∀ c ds H, E c ds H → exE X.mg XE c ds H) (ht : t ∈ Oc) (hO : O = pr.map (·.1)) (hn : (pr.map (·.2)).Nodup) (hn1 : (pr.map (·.1)).Nodup) (hw : ∀ p ∈ pr, p.2 ∈ W) (hl : ALen ms np) (σ : St) (H : Hp) (Q : VK) (h : tM X.K P0 Oc W E (cCallIO pr g (addT t ms)) σ H Q) :
    tCall (spT X.K X.mg np O g) [] XE (tMs X.K P0 Oc W E ms) σ H Q := by
  obtain ⟨ρ, S, h⟩ := tM_callIO (XE := XE) (O := O) hE hO hn hn1 hw (alen_addT hl) σ H Q h
  have h : Res E W σ H (ms ρ >>= fun a => (look t a.2).nox >>= fun _ => R.ok (a.1 ++ [.ow t], a.2)) _ := h
  refine ⟨ρ, S, ?_⟩
  cases em : ms ρ with
  | stk => rw [em] at h; exact h.elim
  | er c ds => rw [em] at h; exact h
  | ok p =>
    obtain ⟨hs, ρ1⟩ := p
    rw [em] at h
    obtain ⟨d, e1, h⟩ := Res.of_nox (show Res E W σ H ((look t ρ1).nox >>= _) _ from h)
    intro vs H1 S1 k1 r1
    obtain ⟨v, h1, _⟩ := S1.own t d (look_some e1) ht
    have h2 : spD X.K X.mg (np + 1) O g ((vs ++ [v]) ++ []) H1 Q XE := h (vs ++ [v]) H1 S1 k1 (hdrs_snoc r1 ⟨ht, h1⟩)
    rw [List.append_nil] at h2 ⊢
    have lv : vs.length = np := by rw [HdRs.len r1]; exact hl ρ hs ρ1 em
    exact ⟨lv, v, h2⟩
theorem ce_callTb {g : Fn} {p : Pos} (G : GloT X.prog X.w X.K X.mg X.base name k np O g) (pr : List (Nat × Nat)) (t : Nat) (o : Out2 X E XE) (hr : Room k X.A) (ha : CA X P0 Oc W E (e :: es) ms) (hl : ALen ms np) (ht : t ∈ Oc := by decide) (hO : O = pr.map (·.1) := by rfl) (hn : (pr.map (·.2)).Nodup := by decide) (hn1 : (pr.map (·.1)).Nodup := by decide) (hw : ∀ p ∈ pr, p.2 ∈ W := by decide) (hg : Gl X name := by rfl) (hdb : (name == ("__debug__" : Str)) = false := by decide)
    (he : starEach (e :: es) X.env = (false, eval e X.env) :: starEach es X.env := by rfl) (hpl : (backTo pos (starEach es X.env)).any (·.1) = false := by rfl) : CEx X P0 Oc W E (.Call (.Name name p) (e :: es) [] pos) (cCallIO pr g (addT t ms)) := by
  obtain ⟨f, fd, ps, hm, hk, hb, _, F⟩ := G.ex
  exact PE.imp (pe_call F hr hg hm hk hb .nil o.pass ha hdb he hpl) fun σ H Q h => tM_callT o.ex ht hO hn hn1 hw hl σ H Q h
end
@[simp] theorem e_addT {ρ : Y.Env} {t : Nat} {m : AM} : addT t m ρ = (m ρ >>= fun p => (look t p.2).nox >>= fun _ => R.ok (p.1 ++ [.ow t], p.2)) := id rfl
end Y

set_option Elab.async false
set_option linter.all false
set_option maxRecDepth 100000
set_option maxHeartbeats 2000000
namespace Y
open PySem PySem.Spec PyProof.Rows L2
structure ChT (H : Hp) (P : Addr) (q : Str) (H1 : Hp) : Prop where
  tab : LamX.TabS H1 P q
  keep : ∀ b o, b ≠ P → H b = some o → H1 b = some o
  some : ∀ b, H b ≠ none → H1 b ≠ none
section
variable {X : Cx} {pins : List (Addr × Obj)} {σ : L2.St} {H : Hp} {s : Shared}
theorem lam_mk {c P : Addr} {params : Arguments} {body : Expr} {scope : Scope} {pos : Pos} {E : Value → Shared → Prop} {Q : Value → Shared → Prop} (I : Inv X pins σ H s) (TB : LamX.TabB X.base X.mg c P) (hcode : X.env.code = .ref c)
    (t : LamX.TabS H P (X.env.qual ++ "<lambda>")) (hdef : defaultsOf params X.env = ([], [])) (hfree : ∀ y ∈ scope.names, y.2 = .free → ∃ c, X.env.cells.lookup y.1 = some c)
    (h : ∀ (f c' : Addr) (pm ctv : Value) (H1 : Hp) (s' : Shared), Inv X pins σ H1 s' → ChT H P (X.env.qual ++ "<lambda>") H1 →
      s'.heap.get? f = some (PySem.W.kla_obj "<lambda>" (X.env.qual ++ "<lambda>") params body scope (cloFrom X.env.cells scope.names []) pm c' ctv) → s'.heap.CodeRec (.ref c') (X.env.qual ++ "<lambda>") → Q (.ref f) s') :
    wpAny (model X.prog X.w) X.A (eval (.Lambda params body scope pos) X.env) Q E s := by
  have t0 := t
  obtain ⟨ps, hP, ht, ha⟩ := t
  refine PySem.W.kla_eval hdef ?_
  have bP : s.heap.BuiltinsAt X.mg P := TB.bm.keeps I.bk
  have hP' : s.heap.get? P = some { cls := .none, data := .fields ps } := I.hok P _ hP
  cases hc : codeAmong pos ps.toList with
  | none =>
    refine PySem.W.kla_makeFunction (mg := X.mg) (c := c) (P := P) (ps := ps) (closure_ok hfree) I.ok.glob (I.mod.glob.keeps I.bk) hcode (TB.code.keeps I.bk) hP' ht hc TB.gP bP fun c' ctv h' tk hx hge hlt hrec htb => ?_
    have hrec0 := hrec
    obtain ⟨c2, oc, vs, t, e2, hoc, hd, hv⟩ := hrec
    cases e2
    have nC : H c' = none := I.hok.fresh hge
    have nPc : P ≠ c' := ne_of_none hP nC
    have I1 := LamX.inv_table (t' := tk) (more := #[rawInt pos.line, rawInt pos.col, .ref c']) (h' := h'.push (PySem.W.kla_obj "<lambda>" (X.env.qual ++ "<lambda>") params body scope (cloFrom X.env.cells scope.names []) ((X.mg "__name__").getD .none) c' ctv)) I hP
      (fun b o hb e => Heap.get?_push_of_some _ (hx b o hb e)) (Heap.get?_push_of_some _ htb) hge ⟨oc, vs, t, Heap.get?_push_of_some _ hoc, hd, hv⟩
    have eL : (ps ++ #[rawInt pos.line, rawInt pos.col, .ref c']).toList = ps.toList ++ [rawInt pos.line, rawInt pos.col, .ref c'] := by simp
    refine h h'.objs.size c' ((X.mg "__name__").getD .none) ctv _ _ I1 ⟨?_, fun b o hb e => ?_, fun b e => ?_⟩ (Heap.get?_push_size _ rfl) ⟨c', oc, vs, t, rfl, Heap.get?_push_of_some _ hoc, hd, hv⟩
    · refine ⟨_, by rw [upd_ne nPc, upd_same], by rw [eL]; exact PySem.TriplesOk_snoc _ _ _ _ ht, fun p' cv hcv => ?_⟩
      rw [eL] at hcv
      rcases LamX.among_app _ ht hcv with z | z
      · obtain ⟨c0, e1, e2⟩ := ha p' cv z
        refine ⟨c0, e1, ?_⟩
        rw [upd_ne (ne_of_none e2 nC), upd_ne (fun z => by rw [z, hP] at e2; exact LamX.codeO_ne ps (Option.some.inj e2).symm)]
        exact e2
      · exact ⟨c', z, upd_same⟩
    · rw [upd_ne (ne_of_none e nC), upd_ne hb]
      exact e
    · by_cases h1 : b = c'
      · rw [h1, upd_same]; intro z; cases z
      · rw [upd_ne h1]
        by_cases h2 : b = P
        · rw [h2, upd_same]; intro z; cases z
        · rw [upd_ne h2]; exact e
  | some cv =>
    obtain ⟨c', e, hco⟩ := ha pos cv hc
    subst e
    refine PySem.W.kla_makeFunctionHit (mg := X.mg) (c := c) (P := P) (ps := ps) (closure_ok hfree) I.ok.glob (I.mod.glob.keeps I.bk) hcode (TB.code.keeps I.bk) hP' ht hc bP fun ctv h' tk hx hsz => ?_
    have I1 : Inv X pins σ H { s with heap := h'.push (PySem.W.kla_obj "<lambda>" (X.env.qual ++ "<lambda>") params body scope (cloFrom X.env.cells scope.names []) ((X.mg "__name__").getD .none) c' ctv), toks := tk } := I.kept fun b o e => Heap.get?_push_of_some _ (hx b o e)
    obtain ⟨⟨oc, vs, t, e1, e2, e3⟩, _, _⟩ := I1.hok c' _ hco
    exact h h'.objs.size c' ((X.mg "__name__").getD .none) ctv H _ I1 ⟨t0, fun b o _ e => e, fun b e => e⟩ (Heap.get?_push_size _ rfl) ⟨c', oc, vs, t, rfl, e1, e2, e3⟩
end
section
variable {prog : Program} {w : World} {A : Around} {s : Shared} {x q : Str} {params : Arguments} {body : Expr} {scope : Scope} {pm ctv : Value} {c' f : Addr} {v : Value} {Q : Value → Shared → Prop}
theorem lam1_call (hroom : A.depth < recursionLimit) (of : s.heap.get? f = some (PySem.W.kla_obj "<lambda>" q params body scope [] pm c' ctv)) (hrec : s.heap.CodeRec (.ref c') q) (lim : s.heap.NoLimit)
    (hbind : bindArgs (PySem.W.kla_fn "<lambda>" q params body scope [] pm (.ref c') ctv) ⟨[v], []⟩ = pure [(x, v)]) (hk : scope.kind = .function) (hco : scope.isCoroutine = false) (hgen : scope.isGenerator = false) (hnm : scope.names.lookup x = some .local) (hcell : ∀ y ∈ scope.names, y.2 ≠ .cell)
    (hbody : ∀ h₁ : Heap, h₁.Ns s.heap.objs.size (fun y => [(x, v)].reverse.lookup y) → (∀ b o, s.heap.get? b = some o → h₁.get? b = some o) →
      wpAny (model prog w) (A.deeper (PySem.W.envX q scope s.heap.objs.size f (.ref c') [])) (eval body (PySem.W.envX q scope s.heap.objs.size f (.ref c') [])) Q (fun _ _ => False) { s with heap := h₁, toks := s.toks + 1 }) :
    wpAny (model prog w) A (call (.ref f) [v]) Q (fun _ _ => False) s := by
  have rc : codeAny (model prog w) A (.call (.ref f) ⟨[v], []⟩) (fun r s' => match r with | .ok (.ret u) => Q u s' | _ => False) s := by
    refine PySem.W.kla_callFunE hroom of rfl hco hgen rfl hrec ?_
    rw [hbind]
    refine wpAny_pure (wpAny_newFunctionEnv hcell (fun y hy => ?_) (fun h₁ hns hsb => ⟨lim.fresh _ hsb, ?_⟩) hk)
    · rw [List.mem_singleton.mp hy]; exact hnm
    · show codeAny _ _ (.expr body (PySem.W.envX q scope s.heap.objs.size f (.ref c') [])) _ _
      have kp : ∀ b o, s.heap.get? b = some o → h₁.get? b = some o := fun b o e => hsb.extBut b o (Nat.ne_of_lt (Heap.lt_size e)) (Heap.get?_push_of_some _ e)
      exact PySem.W.kla_codeExpr (wpAny_mono (hbody h₁ hns kp) (fun v s' hq => hq) fun e s' hq => hq.elim)
  refine wpAny_call (codeAny_mono rc fun r s' hq => ?_)
  cases r with
  | error e => exact hq.elim
  | ok fl =>
    cases fl with
    | ret u => exact hq
    | next => exact False.elim hq
    | brk => exact False.elim hq
    | cont => exact False.elim hq
end
end Y

set_option Elab.async false
set_option linter.all false
set_option maxRecDepth 100000
set_option maxHeartbeats 2000000
namespace Y
open PySem PySem.Spec PyProof.Rows L2
section
variable {α : Type} {g : α → Int}
end
section
variable {X : Cx} {pins : List (Addr × Obj)} {σ : L2.St} {H : Hp} {s : Shared} {x q c : Str} {params : Arguments} {body : Expr} {scope : Scope} {pm ctv : Value} {c' f a : Addr} {xs : List Str} {Q : VK} {k : Nat}
end
end Y

set_option Elab.async false
set_option linter.all false
set_option maxRecDepth 100000
set_option maxHeartbeats 2000000
namespace Y
open PySem PySem.Spec PyProof.Rows L2
section
variable {K : PySem.W.Frag} {P0 : Pr} {O W : List Nat} {ρ : Env} {σ : L2.St} {H H2 : Hp} {t : Nat} {P : Addr} {q : Str}
theorem Sim.chT (S : Sim K P0 O W ρ σ H) (ht : t ∈ O) (hρ : ρ[t]? = some (some (.tab P q))) (ch : ChT H P q H2) : Sim K P0 O W ρ σ H2 := by
  obtain ⟨v, h1, h2⟩ := S.own t _ hρ ht
  obtain ⟨a, rfl, rfl, hT⟩ := h2
  obtain ⟨ps2, g1, g2, g3⟩ := ch.tab
  have oaP : FA P0 O σ a := .inr ⟨t, ht, h1⟩
  have k : ∀ b o, H b = some o → ¬ FA P0 O σ b → H2 b = some o := fun b o e n => ch.keep b o (fun z => n (by rw [z]; exact oaP)) e
  refine ⟨S.sub, S.len, fun b z => ?_, fun i d e n => ?_, fun i d e n => ?_, S.sep, S.sep0⟩
  · by_cases hb : b = a
    · rw [hb, g1]; trivial
    · have q := S.dom b z
      cases e : H b with
      | none => rw [e] at q; exact q.elim
      | some o => rw [ch.keep b o hb e, ← e]; exact q
  · obtain ⟨v, e1, e2⟩ := S.val i d e n
    exact ⟨v, e1, e2.of_same S.dom k⟩
  · by_cases hi : i = t
    · subst hi
      rw [hρ] at e
      cases e
      exact ⟨_, h1, a, rfl, rfl, ps2, g1, g2, g3⟩
    · obtain ⟨v, e1, e2⟩ := S.own i d e n
      exact ⟨v, e1, e2.mono S.dom k (fun _ z => .inl z) fun b o e3 e4 => ch.keep b o (fun z => hi (S.sep i t a n ht (by rw [e1, e3, z]) h1)) e4⟩
theorem chT_keepW (S : Sim K P0 O W ρ σ H) (ht : t ∈ O) (hw : t ∈ W) (hρ : ρ[t]? = some (some (.tab P q))) (ch : ChT H P q H2) : Keep W σ H H2 := by
  obtain ⟨v, h1, h2⟩ := S.own t _ hρ ht
  obtain ⟨a, rfl, rfl, hT⟩ := h2
  exact ⟨fun b o e n => ch.keep b o (fun z => n ⟨t, hw, by rw [z]; exact h1⟩) e, ch.some⟩
end
open Classical in
noncomputable def hasT (t : Nat) (P : Addr) (q : Str) (ρ : Env) : R Unit := if ρ[t]? = some (some (.tab P q)) then .ok () else .stk
section
variable {X : Cx} {P0 : Pr} {O W : List Nat} {E : EK} {a : Expr} {ma : EM} {pos : Pos} {k : Nat}
end
variable {ρ : Y.Env}
theorem hasT_ok {t : Nat} {P : Addr} {q : Str} (h : ρ[t]? = some (some (.tab P q))) : hasT t P q ρ = .ok () := by unfold hasT; rw [if_pos h]
end Y

set_option Elab.async false
set_option linter.all false
set_option maxRecDepth 100000
namespace Y
open PySem PySem.Spec PyProof.Rows L2
structure DefC (K : PySem.W.Frag) (mg : Str → Option Value) (x : Str) (st : Stmt) (c : Addr) : Prop where
  ex : ∃ (f : Addr) (oc : Value) (od : Option Addr) (kV doc pm : Value) (an : Option Addr) (ct : Value) (osl : Array (Option Value)), mg x = some (.ref f) ∧
    K.lookup f = some ⟨oc, od, .func (PySem.W.fnOf x x (defArgs st) (defBody st) (defScope st) .none kV doc pm an (.ref c) ct), osl⟩ ∧ PySem.W.codeIn K (.ref c) x = true ∧ PySem.W.keepIn K (.ref f) = true
theorem defC_mk {K : PySem.W.Frag} {h : Heap} {mg : Str → Option Value} {x : Str} {st : Stmt} {f c0 : Addr} {od an : Option Addr} {sl : Array (Option Value)} {oc kV dc pm ct : Value} (Z : K.In h) (G : h.Ns mainGlobals mg)
    (a : PySem.W.nsIn K mainGlobals x = some (some (.ref f))) (l : K.lookup f = some ⟨oc, od, .func (PySem.W.fnOf x x (defArgs st) (defBody st) (defScope st) .none kV dc pm an (.ref c0) ct), sl⟩) (c : PySem.W.codeIn K (.ref c0) x = true) (k : PySem.W.keepIn K (.ref f) = true) : DefC K mg x st c0 :=
  ⟨f, oc, od, kV, dc, pm, an, ct, sl, PySem.W.mg_of Z G a, l, c, k⟩
section
variable {K : PySem.W.Frag} {mg : Str → Option Value} {O Oc W U : List Nat} {np n : Nat}
/-- from the def's body to its promise -/
theorem fnT_core {X : Cx} {st : Stmt} {N : List Str} {H : Hp} {vs0 : List V} {Q : VK} {E : XK} {m : SM} {hx : Str} (hid : N[np]? = some hx) (hXN : X.N = N) (nv' : ¬ Vis X.env.scope hx) (hn : N.length = n) (hK : X.K = K) (hO : ∀ i, i ∈ O ↔ i ∈ Oc ∧ i < np + 1) (hW : ∀ i ∈ W, i ∈ Oc) (hU : ∀ i ∈ O, i ∈ U)
    (h : spT K mg np O (fnD (np + 1) n O m) vs0 H Q E) (hb : ∀ P0 : Pr, CSs X P0 Oc W U (exE mg E) (defBody st) m) :
    ∃ t, PSs X (defBody st) t ∧ t { nx := fun _ H' => Q .non H', rt := Q } (L2.start N vs0) H := by
  subst hK
  obtain ⟨hl0, v, hl, ds, P0, S0, hd, h⟩ := h
  refine ⟨_, pss_hid (hb P0) (i := np) (by rw [hXN]; exact hid) nv' v, ?_⟩
  have hnp : np < N.length := (List.getElem?_eq_some_iff.mp hid).1
  show (∃ ρ, Sim X.K P0 Oc W ρ ((L2.start N vs0).set np (some v)) H ∧ _)
  rw [← hl0, start_snoc (by rw [hl0]; exact hnp)]
  generalize vs0 ++ [v] = vs at *
  refine ⟨_, sim_start S0 hO hW hl hd hn, ?_⟩
  have oa := fun b => OA_start (N := N) hO hl b
  have kO : ∀ {H'}, Keep Oc (L2.start N vs) H H' → Keep O (vs.map some) H H' := fun {H'} k => ⟨fun b o e nn => k.keep b o e fun z => nn ((oa b).mp z), k.some⟩
  unfold fnD at h
  cases em : m (ds.map some ++ List.replicate (n - (np + 1)) none) with
  | stk => rw [em] at h; exact h.elim
  | er c xs => rw [em] at h; exact fun H' kp => h H' (kO kp)
  | ok p =>
    obtain ⟨fl, ρ1⟩ := p
    rw [em] at h
    obtain ⟨hh, e1, h⟩ := Res.of_nox (show Res (exE mg E) O (vs.map some) H ((retH (np + 1) fl ρ1).nox >>= _) _ from h)
    intro σ' H' S' t' l'
    have h : ∀ v H', Keep O (vs.map some) H H' → Sim X.K P0 O [] (outs O (np + 1) ρ1) (vs.map some) H' → HdR X.K P0 O H (vs.map some) H' hh v → Q v H' := h
    have un : ∀ i ∈ O, σ'[i]? = (L2.start N vs)[i]? := fun i hi => t'.unch i (hU i hi)
    have pre : ∀ {i : Nat} {v : V}, i ∈ O → (σ'[i]? = some (some v) ↔ (vs.map some)[i]? = some (some v)) := fun {i v} hi => by
      rw [un i hi]
      exact ⟨fun e => map_get.mpr (start_get e), fun e => start_of (map_get.mp e)⟩
    have oO : ∀ b, OA O (vs.map some) b → OA Oc σ' b := fun b ⟨i, hi, e⟩ => ⟨i, ((hO i).mp hi).1, (pre hi).mpr e⟩
    have fa : ∀ b, FA P0 O (vs.map some) b → FA P0 Oc σ' b := fun b z => z.imp id (oO b)
    have kk : Keep O (vs.map some) H H' := ⟨fun b o e nn => t'.keep b o e fun z => nn ((oa b).mp z), t'.some⟩
    have so : Sim X.K P0 O [] (outs O (np + 1) ρ1) (vs.map some) H' := by
      refine ⟨fun _ z => (nomatch z), by unfold outs; simp [hl], fun b z => S'.dom b (fa b z), fun i d e nn => absurd (outs_get e).1 nn, fun i d e hi => ?_, S0.sep, S0.sep0⟩
      obtain ⟨_, _, e2⟩ := outs_get e
      obtain ⟨v, h1, h2⟩ := S'.own i d e2 ((hO i).mp hi).1
      exact ⟨v, (pre hi).mp h1, h2.less S'.dom fa⟩
    cases fl with
    | bk => cases e1
    | ct => cases e1
    | nx => cases e1; exact h .non H' kk so ⟨by unfold Rep; rfl, fun z => by cases z⟩
    | rt hd' =>
      intro v r
      cases hd' with
      | fr d => cases e1; exact h v H' kk so ⟨r.1.less S'.dom fa, r.2⟩
      | vl d => cases e1; exact h v H' kk so (Rep.less S'.dom r fa)
      | ow i =>
        have e1 : (if np + 1 ≤ i then (do
          let d ← (look i ρ1).nox
          pure (Hd.fr d)) else .stk) = R.ok hh := e1
        by_cases hi : np + 1 ≤ i
        · rw [if_pos hi] at e1
          obtain ⟨d, e2, e1⟩ := R.ok_of e1
          cases e1
          have e2 := look_some (R.nox_of e2)
          obtain ⟨v', h1, h2⟩ := S'.own i d e2 r.1
          have q : σ'[i]? = some (some v) := r.2
          rw [q] at h1
          cases h1
          have no : ∀ a, v = .ref a → ¬ OA O (vs.map some) a := fun a e z => by
            obtain ⟨j, hj, ej⟩ := z
            have := S'.sep i j a r.1 ((hO j).mp hj).1 (by rw [q, e]) ((pre hj).mpr ej)
            have := ((hO j).mp hj).2
            omega
          refine h v H' kk so ⟨h2.rep S'.dom fa fun a e => ⟨fun z => ?_, .inr ⟨i, r.1, by rw [q, e]⟩⟩, fun _ a e => ?_⟩
          · rcases z with z | z
            · exact S'.sep0 a ⟨i, r.1, by rw [q, e]⟩ z
            · exact no a e z
          · rcases t'.own a ⟨i, r.1, by rw [q, e]⟩ with z | z
            · exact absurd ((oa a).mp z) (no a e)
            · exact z
        · rw [if_neg hi] at e1; cases e1
theorem gloT_mkC {P : Program} {w : World} {base : Heap} {k : Nat} {x : Str} {st : Stmt} {N ps : List Str} {m : SM} {hx : Str} {c : Addr} (F : DefC K mg x st c) (S : FnScope N ps (defScope st)) (hid : N[np]? = some hx) (nv : (defScope st).names.lookup hx = none)
    (hb : ∀ (f : Addr) (A : Around) (outer : List PySem.Env) (s : Shared) (H : Hp) (E : XK) (P0 : Pr), Room k (A.deeper (envOfC x (defScope st) s.heap.objs.size f (.ref c))) → CSs (cxOf (L2N.CX P w) P w K mg base N x (defScope st) f (.ref c) A outer s H E) P0 Oc W U (exE mg E) (defBody st) m)
    (bi : ∀ (kV doc pm : Value) (an : Option Addr) (cdv ct : Value) (us : List Value), us.length = ps.length → bindArgs (PySem.W.fnOf x x (defArgs st) (defBody st) (defScope st) .none kV doc pm an cdv ct) ⟨us, []⟩ = Pure.pure (ps.zip us))
    (hp : ps.length = np := by rfl) (hn : N.length = n := by rfl) (hO : O = Oc.filter (fun i => decide (i < np + 1)) := by rfl) (hW : ∀ i ∈ W, i ∈ Oc := by decide) (hU : ∀ i ∈ O, i ∈ U := by decide) : GloT P w K mg base x (k + 1) np O (fnD (np + 1) n O m) := by
  obtain ⟨f, oc, od, kV, doc, pm, an, ct, osl, hm, lk, hc, kp⟩ := F.ex
  have FF : Fun K x x st f _ := fun_mk lk hc kp
  have nv' : ¬ Vis (defScope st) hx := fun z => by rcases z with z | z | z <;> rw [nv] at z <;> cases z
  refine ⟨f, _, ps, hm, kp, FF.binds bi, hp, fn_of lk hc S (fun vs H Q E h => by rw [h.1, hp]) fun A outer s H vs Q E hr h => ?_⟩
  exact fnT_core (X := cxOf (L2N.CX P w) P w K mg base N x (defScope st) f (.ref c) A outer s H E) (st := st) hid rfl nv' hn rfl (fun i => by rw [hO, List.mem_filter, decide_eq_true_eq]) hW hU h fun P0 => hb f A outer s H E P0 hr
end
theorem law_fnT {P : Program} {w : World} {K : PySem.W.Frag} {mg : Str → Option Value} {base : Heap} {k n : Nat} {st : Stmt} {f : Addr} {fd : FuncData} {N : List Str} {Oc W : List Nat} {m : SM} {hx : Str} (F : Fun K "law" "law" st f fd) (S : FnScope N ["script"] (defScope st)) (hid : N[1]? = some hx) (nv : (defScope st).names.lookup hx = none)
    (hb : ∀ (f : Addr) (cdv : Value) (A : Around) (outer : List PySem.Env) (s : Shared) (H : Hp) (E : XK) (P0 : Pr), Room k (A.deeper (envOfC "law" (defScope st) s.heap.objs.size f cdv)) → CSs (cxOf (L2N.CX P w) P w K mg base N "law" (defScope st) f cdv A outer s H E) P0 Oc W [1] (exE mg E) (defBody st) m)
    (hn : N.length = n := by rfl) (hO : [1] = Oc.filter (fun i => decide (i < 2)) := by rfl) (hW : ∀ i ∈ W, i ∈ Oc := by decide) : FnOk P w K mg base (L2N.CX P w) (k + 1) f fd ["script"] (spT K mg 1 [1] (fnD 2 n [1] m)) :=
  fnD_okT F S hid nv rfl hn (fun i => by rw [hO, List.mem_filter, decide_eq_true_eq]) hW (fun _ h => h) fun cdv A outer s H E P0 hr => hb f cdv A outer s H E P0 hr
abbrev GoodT (g : Addr → Fn) (q : Str) (n : Nat) : Prop := ∀ (TP : Addr) (ns : List Int), ns.length ≤ n → (∀ z ∈ ns, Builtin.Int.intBits z ≤ 1048576) → ∃ b os, g TP [.arg ns, .tab TP q] = .ok (b, os) ∧ (b = .fr (.bl true) ∨ b = .vl (.bl true))
theorem spT_law {K : PySem.W.Frag} {mg : Str → Option Value} {g : Addr → Fn} {q : Str} {n : Nat} (hg : GoodT g q n) {TP a : Addr} {ns : List Int} {H : Hp} (h1 : ns.length ≤ n) (h2 : ∀ z ∈ ns, Builtin.Int.intBits z ≤ 1048576) (hT : H TP = some (.tbl #[])) (hS : SqL K H a (ns.map V.int)) :
    spT K mg 1 [1] (g TP) [.ref a] H (fun v _ => v = .bl true) fun _ _ _ => False := by
  obtain ⟨b, os, e, hb⟩ := hg TP ns h1 h2
  have oa : ∀ x, OA [1] ([V.ref a, V.ref TP].map some) x → x = TP := fun x ⟨i, hi, ei⟩ => by
    rw [List.mem_singleton.mp hi] at ei
    cases ei
    rfl
  refine ⟨rfl, .ref TP, rfl, [.arg ns, .tab TP q], fun _ => False, ⟨fun i z => (nomatch z), by simp, fun x z => ?_, fun i d ei ni => ?_, fun i d ei hi => ?_, fun i j x hi hj _ _ => ?_, fun x _ z => z⟩, rfl, ?_⟩
  · rcases z with z | z
    · exact z.elim
    · rw [oa x z, hT]; trivial
  · have i0 : i = 0 := by
      have := (List.getElem?_eq_some_iff.mp ei).1
      simp at this ni
      omega
    subst i0
    cases ei
    refine ⟨.ref a, rfl, ?_⟩
    unfold Rep
    refine ⟨a, rfl, ?_⟩
    rcases hS with hS | hS
    · refine .inl ⟨fun z => ?_, hS⟩
      rcases z with z | z
      · exact z
      · rw [oa a z] at hS
        rcases hS with hS | ⟨o, hS⟩ <;> rw [hT] at hS <;> cases hS
    · exact .inr (.inr hS)
  · rw [List.mem_singleton.mp hi] at ei ⊢
    cases ei
    exact ⟨.ref TP, rfl, TP, rfl, rfl, LamX.TabS.nil hT⟩
  · rw [List.mem_singleton.mp hi, List.mem_singleton.mp hj]
  · show Res _ _ _ H (g TP [.arg ns, .tab TP q]) _
    rw [e]
    intro v H' _ _ r
    rcases hb with rfl | rfl
    · have r := r.1; unfold Rep at r; exact r
    · have r : Rep K H' (.bl true) (FA (fun _ => False) [1] ([V.ref a, V.ref TP].map some)) v := r; unfold Rep at r; exact r
theorem walk_ofTab {l : PySem.W.OpenLaw} {n k : Nat} {q : Program} {loose : List Str} {XP : (Str → Option Value) → Heap → Prop} {YP : World → Heap → Prop} {d : DefRec} {K : Params → PySem.W.Frag} {CX : World → CXT} {x : Str}
    (hn : l.most = some n) (hn2 : n ≤ sizeLine) (hdf : d.params.defaults = []) (hr : Room k callerA) (hY : ∀ (w : World) (h : Heap), YP w h → (K w.params).In h)
    (F : ∀ (w : World) (mg : Str → Option Value) (fa : Addr) (h : Heap), YP w h → (K w.params).In h → h.Ns mainGlobals mg → mg d.name = some (.ref fa) → LamX.LawAtS l w (K w.params) (CX w) k n x mg fa h)
    (hCX : ∀ (w : World) (H : Hp) (s : Shared) (e : Value) (s' : Shared), CX w [] H s (fun _ _ _ => False) e s' → False) :
    PySem.W.WalkO q loose XP YP l.row.toRowW d [] (fun f vs => PySem.call f vs) := by
  refine Att.attach_callB hn hdf fun w s₀ s₁ mg mb fa o pm cd doc a vs ns G Y ho hd hcd hmg hobj hints hlen hbits hg => ?_
  have KX := hY w _ Y
  obtain ⟨fd, cs, sp, hT, nT, C, hb, hsp, hF⟩ := F w mg fa _ Y KX G.T.g hmg
  exact LamX.law_callTs KX G.T.g G.T.b G.T.builtins G.T.nolimit hg hT nT C G.T.bmain hobj hints (Nat.le_trans hlen hn2) hr hF hb (fun H hH hS => hsp H a ns hlen hbits hH hS) fun H e s' => hCX w H s₁ e s'
theorem law_allT {w : World} {K : PySem.W.Frag} {mg : Str → Option Value} {h : Heap} {fa f2 tc TP : Addr} {st : Stmt} {k n : Nat} {g : Addr → Fn} {q : Str} {l : PySem.W.OpenLaw} (Z : K.In h) (G : h.Ns mainGlobals mg) (hfa : mg "law" = some (.ref fa)) (hg : GoodT g q n)
    (C : PySem.W.CodeHd h tc TP) (hT : h.get? TP = some { cls := .none, data := .fields #[] }) (nT : K.lookup TP = none)
    {od an : Option Addr} {sl : Array (Option Value)} {oc kV dc pm cd ct : Value}
    (ok : ∀ (base : Heap) {f : Addr} {fd : FuncData}, LamX.TabB base mg tc TP → Fun K "law" "law" st f fd → FnOk l.prog w K mg base (L2N.CX l.prog w) k f fd ["script"] (spT K mg 1 [1] (g TP)))
    (hb : ∀ (kV dc pm : Value) (an : Option Addr) (cd ct : Value) (s : Shared) (u : Value), BindsTo s (PySem.W.fnOf "law" "law" (defArgs st) (defBody st) (defScope st) .none kV dc pm an cd ct) ⟨[u], []⟩ [("script", u)])
    (a : PySem.W.nsIn K mainGlobals "law" = some (some (.ref f2))) (lk : K.lookup f2 = some ⟨oc, od, .func (PySem.W.fnOf "law" "law" (defArgs st) (defBody st) (defScope st) .none kV dc pm an cd ct), sl⟩) (c : PySem.W.codeIn K cd "law" = true) (kp : PySem.W.keepIn K (.ref f2) = true) :
    LamX.LawAtS l w K (L2N.CX l.prog w) k n "script" mg fa h := by
  have e := hfa.symm.trans (PySem.W.mg_of Z G a)
  cases e
  refine ⟨_, [(tc, TP)], spT K mg 1 [1] (g TP), fun p hp => ?_, fun p hp => ?_, fun p hp => ?_, fun s u => hb kV dc pm an cd ct s u, fun H a ns h1 h2 hH hS => spT_law hg h1 h2 (hH (tc, TP) (by simp)) hS, fun base _ _ hB => ok base (hB (tc, TP) (by simp)) (fun_mk lk c kp)⟩
  · rw [List.mem_singleton.mp hp]; exact hT
  · rw [List.mem_singleton.mp hp]; exact nT
  · rw [List.mem_singleton.mp hp]; exact C
end Y

set_option Elab.async false
set_option linter.all false
set_option maxRecDepth 100000
namespace Y
open PySem PySem.Spec PyProof.Rows L2
open Classical in
noncomputable def cXcallT (g0 : List D → R Hd) (pr : List (Nat × Nat)) (g : Fn) (t : Nat) (ms : AM) : XM := fun ρ => match cXcall g0 ms ρ with
  | .ok (.inr c, ρ1) => .ok (.inr c, ρ1)
  | _ => do
    let (h, ρ1) ← cCallIO pr g (addT t ms) ρ
    pure (.inl h, ρ1)
section
variable {X : Cx} {P0 : Pr} {O Oc W : List Nat} {e : Expr} {es : List Expr} {ms : AM} {pos : Pos} {k k0 np : Nat} {name : Str} {pr : List (Nat × Nat)} {t : Nat}
theorem cx_callT {g0 : List D → R Hd} {g : Fn} {p : Pos} {Ws : WX} (G0 : Glo X.prog X.w X.K X.mg X.base name k0 np [] (pureF g0)) (G : GloT X.prog X.w X.K X.mg X.base name k np O g) (tk : L2N.Takes X Ws) (pr : List (Nat × Nat)) (t : Nat) (hr0 : Room k0 X.A) (hr : Room k X.A) (ha : CA X P0 Oc W E00 (e :: es) ms) (hl : ALen ms np)
    (ht : t ∈ Oc := by decide) (hO : O = pr.map (·.1) := by rfl) (hn : (pr.map (·.2)).Nodup := by decide) (hn1 : (pr.map (·.1)).Nodup := by decide) (hw : ∀ p ∈ pr, p.2 ∈ W := by decide) (hg : Gl X name := by rfl) (hdb : (name == ("__debug__" : Str)) = false := by decide)
    (he : starEach (e :: es) X.env = (false, eval e X.env) :: starEach es X.env := by rfl) (hpl : (backTo pos (starEach es X.env)).any (·.1) = false := by rfl) : PE X (.Call (.Name name p) (e :: es) [] pos) (tX X.K X.mg P0 Oc W (cXcallT g0 pr g t ms) Ws) := by
  refine ⟨fun pins s σ H Q I h => ?_⟩
  obtain ⟨ρ, S, h⟩ := h
  by_cases c : ∃ c ρ1, cXcall g0 ms ρ = .ok (.inr c, ρ1)
  · obtain ⟨c, ρ1, ec⟩ := c
    have e2 : cXcallT g0 pr g t ms ρ = .ok (.inr c, ρ1) := by unfold cXcallT; rw [ec]
    rw [e2] at h
    exact (cx_call (p := p) G0 tk hr0 ha hl hg hdb he hpl).run pins s σ H Q I ⟨ρ, S, by rw [ec]; exact h⟩
  · have e2 : cXcallT g0 pr g t ms ρ = (cCallIO pr g (addT t ms) ρ >>= fun p => R.ok (.inl p.1, p.2)) := by
      unfold cXcallT
      split
      · rename_i c' ρ1' ec; exact absurd ⟨c', ρ1', ec⟩ c
      · rfl
    rw [e2] at h
    exact (ce_callTb (p := p) G pr t Out2.blk hr ha hl ht hO hn hn1 hw hg hdb he hpl).run pins s σ H Q I ⟨ρ, S, h.of_bind⟩
end
theorem e_xcT_er {ρ ρ1 : Y.Env} {g0 : List D → R Hd} {pr : List (Nat × Nat)} {g : Fn} {t : Nat} {ms : AM} {c : Str} (h : cXcall g0 ms ρ = .ok (.inr c, ρ1)) : cXcallT g0 pr g t ms ρ = .ok (.inr c, ρ1) := by unfold cXcallT; rw [h]
end Y

set_option Elab.async false
set_option linter.all false
set_option maxRecDepth 100000
namespace Y
open PySem PySem.Spec PyProof.Rows L2
end Y

set_option Elab.async false
set_option linter.all false
set_option maxRecDepth 100000
set_option maxHeartbeats 4000000
namespace Y
open PySem PySem.Spec PyProof.Rows L2
mutual
def noL : PyData → Bool
  | .none => true
  | .bool _ => true
  | .int _ => true
  | .str _ => true
  | .tuple xs => noLs xs
  | _ => false
def noLs : List PyData → Bool
  | [] => true
  | x :: xs => noL x && noLs xs
end
mutual
theorem reads_noL {h : Heap} : ∀ {v : Value} {d : PyData} {as : List Addr}, Reads h v d as → noL d = true → as = []
  | _, _, _, .none, _ => rfl
  | _, _, _, .bool _, _ => rfl
  | _, _, _, .int _ _, _ => rfl
  | _, _, _, .str _ _, _ => rfl
  | _, _, _, .list _ _ _ _, e => by unfold noL at e; cases e
  | _, _, _, .tuple _ _ _ r, e => readsAll_noL r (by unfold noL at e; exact e)
  | _, _, _, .dict _ _ _ _ _, e => by unfold noL at e; cases e
theorem readsAll_noL {h : Heap} : ∀ {vs : List Value} {ds : List PyData} {as : List Addr}, ReadsAll h vs ds as → noLs ds = true → as = []
  | _, _, _, .nil, _ => rfl
  | _, _, _, .cons r t, e => by
    unfold noLs at e
    rw [Bool.and_eq_true] at e
    rw [reads_noL r e.1, readsAll_noL t e.2]
    rfl
end
section
variable {prog : Program} {w : World} {A : Around} {s : Shared} {x : Str} {Q : Value → Shared → Prop}
/-- (len(x), x), x the lambda's parameter, a tuple -/
theorem body_lenkey {env : PySem.Env} {p1 p2 p3 p4 pos : Pos} {k : Nat} {a : Addr} {its : Array Value} {m mg mb : Str → Option Value} {E : Value → Shared → Prop} (hk : env.scope.kind = .function) (hl : env.kindOf x = some .local) (hg : env.kindOf "len" = some .globalImplicit) (hn : s.heap.Ns env.locals m) (hv : m x = some (.ref a))
    (hG : s.heap.Ns env.globals mg) (hm : mg "len" = none) (hB : s.heap.Ns env.builtins mb) (hb : mb "len" = some (.builtin "len")) (ht : IsTup s.heap a its) (hz : (its.size : Int) < 2 ^ 63)
    (h : ∀ (t : Tok) (tk : Nat), Q (.ref s.heap.objs.size) { s with heap := s.heap.push { cls := .type "tuple", data := .seq [Value.int its.size t, .ref a].toArray }, toks := tk }) (hdb : (x == ("__debug__" : Str)) = false := by decide)
    (h1 : starEach [.Call (.Name "len" p1) [.Name x p2] [] p3, .Name x p4] env = (false, eval (.Call (.Name "len" p1) [.Name x p2] [] p3) env) :: starEach [.Name x p4] env := by rfl) (h2 : starEach [.Name x p4] env = (false, eval (.Name x p4) env) :: starEach [] env := by rfl)
    (h3 : starEach [.Name x p2] env = (false, eval (.Name x p2) env) :: starEach [] env := by rfl) (hpl : (backTo pos (starEach [.Name x p4] env)).any (·.1) = false := by rfl) (hpl2 : (backTo p3 (starEach [.Name x p2] env)).any (·.1) = false := by rfl) :
    wpAny (model prog w) A (eval (.Tuple [.Call (.Name "len" p1) [.Name x p2] [] p3, .Name x p4] k pos) env) Q E s := by
  refine wpAny_Tuple_spliced (args_cons (Call_ (Calls.Name_function_global hk hg (Calls.loadGlobal_builtin hG hm hB hb ?_))) h1)
  refine Calls.callWith_builtin hpl2 (Calls.evalArgs_plain (Calls.spliced_cons (wpAny_Name (wpAny_loadName_local hk hl hn hv (Calls.spliced_nil ?_)) hdb)))
  refine len_tuple ht hz (args_cons (wpAny_Name (wpAny_loadName_local (s := { s with toks := s.toks + 1 + 1 }) hk hl hn hv (args_nil ⟨by show 2 ≤ sizeLine; rw [sizeLine_eq]; decide, h _ _⟩)) hdb) h2)
end

/-- the key of a tuple -/
def keyL (d : D) : PyData := .tuple [.int (match d with | .tup ds => (ds.length : Int) | _ => 0), toPy d]
def isTupD : D → Bool
  | .tup _ => true
  | _ => false
def lensOk (ds : List D) : Bool := ds.all fun a => isTupD a && ((toPy a).canLay0 && (noL (toPy a) && (decide ((toPy a).depth ≤ 50) && ds.all fun b => PySem.W.alike (toPy a) (toPy b))))
noncomputable def leLen : D → D → Bool := PySem.W.dataLe false keyL
noncomputable def sortLenD : D → R D
  | .lst ds => if lensOk ds = true then .ok (.lst (ds.mergeSort leLen)) else .stk
  | _ => .stk
noncomputable def cSortL (t : Nat) (P : Addr) (q : Str) (m : EM) : EM := fun ρ => do
  let (h, ρ1) ← m ρ
  let d ← (h.d ρ1).nox
  let _ ← (hasT t P q ρ1).nox
  let z ← (sortLenD d).nox
  pure (.fr z, ρ1)
section
variable {X : Cx} {P0 : Pr} {O W : List Nat} {E : EK} {a : Expr} {ma : EM} {pos : Pos} {k : Nat}
theorem sortLen_run {pins : List (Addr × Obj)} {s : Shared} {σ : L2.St} {H : Hp} {Pr1 : Pr} {x q : Str} {params : Arguments} {scope : Scope} {p1 p2 p3 p4 pb : Pos} {kk : Nat} {pm ctv : Value} {c' f b : Addr} {ds : List D} {vs : List V} {Q : VK} (I : Inv X pins σ H s) (hs : SqL X.K H b vs) (hr : Reps X.K H ds Pr1 vs) (c : lensOk ds = true) (hroom : X.A.in1.in1.depth < recursionLimit) (hu : X.A.units + 65 < cLine)
    (of : s.heap.get? f = some (PySem.W.kla_obj "<lambda>" q params (.Tuple [.Call (.Name "len" p1) [.Name x p2] [] p3, .Name x p4] kk pb) scope [] pm c' ctv)) (hrec : s.heap.CodeRec (.ref c') q) (hm : X.mg "len" = none)
    (hbind : ∀ v, bindArgs (PySem.W.kla_fn "<lambda>" q params (.Tuple [.Call (.Name "len" p1) [.Name x p2] [] p3, .Name x p4] kk pb) scope [] pm (.ref c') ctv) ⟨[v], []⟩ = pure [(x, v)]) (hk : scope.kind = .function) (hco : scope.isCoroutine = false) (hgen : scope.isGenerator = false) (hnx : scope.names.lookup x = some .local) (hnl : scope.names.lookup (Str.ofString "len") = some .globalImplicit) (hcell : ∀ y ∈ scope.names, y.2 ≠ .cell) (hdb : (x == ("__debug__" : Str)) = false)
    (h : ∀ p, H p = none → ∀ ws, Reps X.K H (ds.mergeSort leLen) Pr1 ws → ws.length ≤ sizeLine → Q (.ref p) (upd H p (.lst ws))) :
    wpAny (model X.prog X.w) X.A (call (.builtin "sorted") [.ref b] [(Str.ofString "key", .ref f)]) (EP X pins σ Q) X.xe s := by
  obtain ⟨its, rv, hl, hz⟩ := I.list hs
  have ll := hr.length
  unfold lensOk at c
  rw [List.all_eq_true] at c
  have c1 : ∀ d ∈ ds, isTupD d = true ∧ (toPy d).canLay0 = true ∧ noL (toPy d) = true ∧ (toPy d).depth ≤ 50 ∧ ∀ e ∈ ds, PySem.W.alike (toPy d) (toPy e) = true := fun d hd => by
    have := c d hd
    rw [Bool.and_eq_true, Bool.and_eq_true, Bool.and_eq_true, Bool.and_eq_true, List.all_eq_true, decide_eq_true_eq] at this
    exact this
  have mem : ∀ p ∈ ds.zip vs, p.1 ∈ ds := fun p hp => (List.of_mem_zip (a := p.1) (b := p.2) hp).1
  obtain ⟨mb, hb1, hb2⟩ := I.mod.blt
  obtain ⟨c2, oc, vs2, tq, ec, hoc, hdc, hvc⟩ := hrec
  cases ec
  refine PySem.W.sorted_key_data (R := fun u (p : D × V) => RelV p.2 u) (bs := ds.zip vs) (b := false) (fun p : D × V => keyL p.1) hl.isList (each_zip ll rv) (fun d hd d' hd' => ?_) (.inl fun d hd => ?_) (by rw [List.length_zip, ll, Nat.min_self, ← ll]; exact hz) (fun p hp => ?_) (ksk_s1 _ _) (fun x => ksk_l1 _ _) (fun y => ksk_t1 f y) (fun u p ru hp h1 tk kp => ?_) fun out cc h2 tk kp fr hat hlen ho => ?_
  · obtain ⟨p, hp, rfl⟩ := List.mem_map.mp hd
    obtain ⟨p', hp', rfl⟩ := List.mem_map.mp hd'
    have := (c1 _ (mem p hp)).2.2.2.2 _ (mem p' hp')
    show PySem.W.alikeAll [_, _] [_, _] = true
    simp [PySem.W.alikeAll, PySem.W.alike, this]
  · obtain ⟨p, hp, rfl⟩ := List.mem_map.mp hd
    exact ⟨_, _, rfl⟩
  · have := (c1 p.1 (mem p hp)).2.2.2.1
    have dp : (keyL p.1).depth ≤ 51 := by
      unfold keyL
      simp [PyData.depth, PyData.depthAll]
      omega
    omega
  · -- a key
    obtain ⟨d, v⟩ := p
    have hd := mem _ hp
    obtain ⟨t1, t2, t3, t4, _⟩ := c1 d hd
    have rep := zip_rep hr _ hp
    cases d with
    | tup es =>
      have rep0 := rep
      unfold Rep at rep0
      obtain ⟨ad, ws, rfl, g1, g2⟩ := rep0
      cases (show u = Value.ref ad from ru)
      obtain ⟨as, rd⟩ := Dp.reads I _ _ _ (Rep.dp _ t2 rep) (show RelV (.ref ad) (.ref ad) from rfl)
      have ea := reads_noL rd t3
      subst ea
      obtain ⟨its2, rv2, ht2, hz2⟩ := I.tuple (SqT.of g1)
      have eln : its2.toArray.size = es.length := by rw [List.size_toArray, ← rv2.length, g2.length]
      refine lam1_call (s := { s with heap := h1, toks := tk }) (x := x) hroom (kp f _ of) ⟨c', oc, vs2, tq, rfl, kp _ _ hoc, hdc, hvc⟩ (I.mod.nolimit.keeps fun b o e => kp b o (I.bk b o e)) (hbind _) hk hco hgen hnx hcell fun h3 hns kp3 => ?_
      have k3 : ∀ b o, s.heap.get? b = some o → h3.get? b = some o := fun b o e => kp3 b o (kp b o e)
      refine body_lenkey (mg := X.mg) (mb := mb) hk hnx hnl hns (show List.lookup x [(x, Value.ref ad)] = _ by simp) (I.mod.glob.keeps fun b o e => k3 b o (I.bk b o e)) hm (hb1.keeps fun b o e => k3 b o (I.bk b o e)) ((hb2 _ (by decide)).trans rfl) (IsTup.keeps ht2 k3) (by rw [eln, ← g2.length, rv2.length]; rw [sizeLine_eq] at hz2; rw [rv2.length] at hz2; omega) (fun t tk' => ⟨_, _, rfl, fun b o e => Heap.get?_push_of_some _ (kp3 b o e), ?_⟩) hdb
      have hp' : (h3.push { cls := .type "tuple", data := .seq [Value.int its2.toArray.size t, .ref ad].toArray }).get? h3.objs.size = some { cls := .type "tuple", data := .seq [Value.int its2.toArray.size t, .ref ad].toArray } := Heap.get?_push_size _ rfl
      have rk : Reads (h3.push { cls := .type "tuple", data := .seq [Value.int its2.toArray.size t, .ref ad].toArray }) (.ref ad) (toPy (.tup es)) [] := Reads.keeps (fun b o e => Heap.get?_push_of_some _ (k3 b o e)) rd
      have : keyL (.tup es) = .tuple [.int its2.toArray.size, toPy (.tup es)] := by unfold keyL; rw [eln]
      rw [this]
      exact Reads.tuple hp' rfl rfl (ReadsAll.cons (.int _ _) (ReadsAll.cons rk .nil))
    | _ => cases t1
  · -- the end
    have hs : ∀ p ∈ (ds.zip vs).mergeSort (PySem.W.dataLe false fun p : D × V => keyL p.1), p ∈ ds.zip vs := fun p hp => (List.mergeSort_perm _ _).mem_iff.mp hp
    have hsl : ((ds.zip vs).mergeSort (PySem.W.dataLe false fun p : D × V => keyL p.1)).length = ds.length := by rw [List.length_mergeSort, List.length_zip, ll, Nat.min_self]
    have fst : ((ds.zip vs).mergeSort (PySem.W.dataLe false fun p : D × V => keyL p.1)).map (·.1) = ds.mergeSort leLen := by
      have q := List.map_mergeSort (r := PySem.W.dataLe false fun p : D × V => keyL p.1) (s := leLen) (f := Prod.fst) (l := ds.zip vs) (fun a _ b _ => rfl)
      rw [map_fst_zip ll] at q
      exact q
    have rr := reps_zip (K := X.K) (H := H) (P := Pr1) fun p hp => zip_rep hr p (hs p hp)
    rw [fst] at rr
    have hle : (((ds.zip vs).mergeSort (PySem.W.dataLe false fun p : D × V => keyL p.1)).map (·.2)).length ≤ sizeLine := by rw [List.length_map, hsl, ← ll]; exact hz
    exact ⟨.ref (s.heap.objs.size + 1), upd H (s.heap.objs.size + 1) (.lst (((ds.zip vs).mergeSort (PySem.W.dataLe false fun p : D × V => keyL p.1)).map (·.2))), I.laid (t' := tk) kp (Nat.le_succ _) ⟨hle, out, cc, each_vals ho, hat⟩, rfl, h _ (I.hok.fresh (Nat.le_succ _)) _ rr hle⟩
end
end Y

set_option Elab.async false
set_option linter.all false
set_option maxRecDepth 100000
set_option maxHeartbeats 2000000
namespace Y
open PySem PySem.Spec PyProof.Rows L2
section
variable {X : Cx} {P0 : Pr} {O W : List Nat} {E : EK} {a : Expr} {ma : EM} {pos : Pos} {k : Nat}
theorem ce_sortL {t : Nat} {c0 P : Addr} {x q : Str} {params : Arguments} {scope : Scope} {p kpos lpos p1 p2 p3 p4 pb : Pos} {kk : Nat} (hm : X.mg "sorted" = none) (hml : X.mg "len" = none) (hv : bootBuiltins "sorted" = some (.builtin "sorted")) (ha : CEx X P0 O W E a ma) (TB : LamX.TabB X.base X.mg c0 P) (hcode : X.env.code = .ref c0) (hr : Room k X.A)
    (hq : X.env.qual ++ "<lambda>" = q) (ht : t ∈ O := by decide) (htw : t ∈ W := by decide) (hg : Gl X "sorted" := by rfl)
    (hdef : defaultsOf params X.env = ([], []) := by rfl) (hbind : ∀ (pm ctv : Value) (c' : Addr) (v : Value), bindArgs (PySem.W.kla_fn "<lambda>" q params (.Tuple [.Call (.Name "len" p1) [.Name x p2] [] p3, .Name x p4] kk pb) scope [] pm (.ref c') ctv) ⟨[v], []⟩ = pure [(x, v)] := by intros; rfl)
    (hk : scope.kind = .function := by rfl) (hco : scope.isCoroutine = false := by rfl) (hgen : scope.isGenerator = false := by rfl) (hnm : (scope.names.all fun y => y.2 == .local || y.2 == .globalImplicit) = true := by rfl) (hnx : scope.names.lookup x = some .local := by rfl) (hnl : scope.names.lookup (Str.ofString "len") = some .globalImplicit := by rfl) (hclo : ∀ cells, cloFrom cells scope.names [] = [] := by intros; rfl) (hdb : (x == ("__debug__" : Str)) = false := by decide)
    (hn : ("sorted" : Str) ≠ "__name__" := by decide) (hdb2 : (("sorted" : Str) == ("__debug__" : Str)) = false := by decide)
    (he0 : starEach [a] X.env = (false, eval a X.env) :: starEach [] X.env := by rfl) (he : backTo pos (starEach [a] X.env) = (false, eval a X.env) :: backTo pos (starEach [] X.env) := by rfl) (hpl : (backTo pos (starEach [a] X.env)).any (·.1) = false := by rfl) :
    CEx X P0 O W E (.Call (.Name "sorted" p) [a] [⟨some "key", .Lambda params (.Tuple [.Call (.Name "len" p1) [.Name x p2] [] p3, .Name x p4] kk pb) scope lpos, kpos⟩] pos) (cSortL t P q ma) := by
  refine ⟨fun pins s σ H Q I h => ?_⟩
  obtain ⟨ρ, S, h⟩ := h
  have noc : ∀ y ∈ scope.names, y.2 ≠ .free ∧ y.2 ≠ .cell := fun y hy => by
    have := List.all_eq_true.mp hnm y hy
    rw [Bool.or_eq_true] at this
    constructor
    · intro z; rw [z] at this; rcases this with e | e <;> cases e
    · intro z; rw [z] at this; rcases this with e | e <;> cases e
  refine wpAny_Call_Name_kw (ld_blt I hg hm hv ?_ hn hdb2)
  have hA : PA X [a] _ := pa_cons ha pa_nil he0
  refine PyProof.Rows.callWith_kw (thn (hA.run pos pins s σ H (fun us H1 => ∃ u, us = [u] ∧ ∃ ρ1 hd, Sim X.K P0 O W ρ1 σ H1 ∧ Keep W σ H H1 ∧ HdR X.K P0 O H σ H1 hd u ∧ Res E W σ H ((hd.d ρ1).nox >>= fun d => (hasT t P q ρ1).nox >>= fun _ => (sortLenD d).nox >>= fun z => R.ok (Hd.fr z, ρ1)) fun a => ∀ v H', Sim X.K P0 O W a.2 σ H' → Keep W σ H H' → HdR X.K P0 O H σ H' a.1 v → Q v H') I ⟨ρ, S, h.of_bind.mono fun ⟨hd, ρ1⟩ g v H1 S1 k1 r1 => ⟨v, rfl, ρ1, hd, S1, k1, r1, g⟩⟩) fun us s1 ⟨vs, H1, I1, r1, u, e1, ρ1, hd, S1, k1, rh, g⟩ => ?_) he hpl (by rfl) (by rfl)
  subst e1
  obtain ⟨d, e2, g1⟩ := g.of_nox
  obtain ⟨_, e3, g2⟩ := g1.of_nox
  obtain ⟨z, e4, g3⟩ := g2.of_nox
  clear g g1 g2
  have hρ : ρ1[t]? = some (some (.tab P q)) := by
    unfold hasT at e3
    split at e3
    · assumption
    · cases e3
  obtain ⟨ds, ed⟩ : ∃ ds, d = .lst ds := by cases d <;> first | (cases e4; done) | exact ⟨_, rfl⟩
  subst ed
  have e4 : (if lensOk ds = true then R.ok (D.lst (ds.mergeSort leLen)) else R.stk) = R.ok z := e4
  by_cases cc : lensOk ds = true
  case neg => rw [if_neg cc] at e4; cases e4
  rw [if_pos cc] at e4
  cases e4
  obtain ⟨b, ws, rfl, w1, w2⟩ := rh.d S1 e2
  obtain ⟨tv, th1, th2⟩ := S1.own t _ hρ ht
  obtain ⟨pa, rfl, epa, hT⟩ := th2
  subst epa
  obtain ⟨uv, e6, ruv⟩ := vals1 r1
  subst e6
  cases (show uv = Value.ref b from ruv)
  show wpAny _ _ (evalAll ((do let v ← eval (.Lambda params (.Tuple [.Call (.Name "len" p1) [.Name x p2] [] p3, .Name x p4] kk pb) scope lpos) X.env; standAt pos; pure v) :: [])) _ _ s1
  refine wpAny_evalAll_cons (wpAny_bind (lam_mk I1 TB hcode (by rw [hq]; exact hT) hdef (fun y hy e => absurd e (noc y hy).1) fun f c' pm ctv H2 s2 I2 ch of hrec => wpAny_bind (wpAny_standAt (wpAny_pure (wpAny_evalAll_nil ?_)))))
  rw [hq] at ch of hrec
  rw [hclo] at of
  have nb : b ≠ pa := fun z => by
    obtain ⟨ps, hP, _⟩ := hT
    rw [z, hP] at w1
    cases w1
  have S2 := S1.chT ht hρ ch
  have k2 := k1.trans (chT_keepW S1 ht htw hρ ch)
  have hs2 : SqL X.K H2 b ws := SqL.of (ch.keep b _ nb w1)
  have w2' : Reps X.K H2 ds (FA P0 O σ) ws := w2.mono ds S1.dom (fun b o e n => ch.keep b o (fun z => n (by rw [z]; exact .inr ⟨t, ht, th1⟩)) e) fun _ z => .inl z
  refine sortLen_run (x := x) I2 hs2 w2' cc hr.depth (by have := hr.units65; omega) of hrec hml (hbind pm ctv c') hk hco hgen hnx hnl (fun y hy => (noc y hy).2) hdb fun p hp ws3 r3 _ => ?_
  exact (out_of (K := X.K) S2 k2 g3).newL S2.dom r3 hp
end
variable {ρ : Y.Env}
@[simp] theorem e_sortL {t : Nat} {P : Addr} {q : Str} {m : EM} : cSortL t P q m ρ = (m ρ >>= fun p => (p.1.d p.2).nox >>= fun d => (hasT t P q p.2).nox >>= fun _ => (sortLenD d).nox >>= fun z => R.ok (.fr z, p.2)) := id rfl
end Y

set_option Elab.async false
set_option linter.all false
set_option maxRecDepth 100000
set_option maxHeartbeats 2000000
namespace Y
open PySem PySem.Spec PyProof.Rows L2
def lenT (d : D) : Int := match d with
  | .tup ds => (ds.length : Int)
  | .ftu ds => (ds.length : Int)
  | _ => 0
def isTF : D → Bool
  | .tup _ => true
  | .ftu _ => true
  | _ => false
noncomputable def leN : D → D → Bool := PySem.W.dataLe false fun d => .int (lenT d)
noncomputable def sortND : D → R D
  | .lst ds => if ds.all isTF = true then .ok (.lst (ds.mergeSort leN)) else .stk
  | _ => .stk
noncomputable def cSortN (m : EM) : EM := fun ρ => do
  let (h, ρ1) ← m ρ
  let d ← (h.d ρ1).nox
  let z ← (sortND d).nox
  pure (.fr z, ρ1)
section
variable {X : Cx} {P0 : Pr} {O W : List Nat} {E : EK} {a : Expr} {ma : EM} {pos : Pos} {k : Nat}
theorem sortN_run {pins : List (Addr × Obj)} {s : Shared} {σ : L2.St} {H : Hp} {Pr1 : Pr} {b : Addr} {ds : List D} {vs : List V} {Q : VK} (I : Inv X pins σ H s) (hs : SqL X.K H b vs) (hr : Reps X.K H ds Pr1 vs) (c : ds.all isTF = true) (hu : X.A.units + 65 < cLine)
    (h : ∀ p, H p = none → ∀ ws, Reps X.K H (ds.mergeSort leN) Pr1 ws → ws.length ≤ sizeLine → Q (.ref p) (upd H p (.lst ws))) :
    wpAny (model X.prog X.w) X.A (call (.builtin "sorted") [.ref b] [(Str.ofString "key", .builtin "len")]) (EP X pins σ Q) X.xe s := by
  obtain ⟨its, rv, hl, hz⟩ := I.list hs
  have ll := hr.length
  rw [List.all_eq_true] at c
  have mem : ∀ p ∈ ds.zip vs, p.1 ∈ ds := fun p hp => (List.of_mem_zip (a := p.1) (b := p.2) hp).1
  refine PySem.W.sorted_key_data (R := fun u (p : D × V) => RelV p.2 u) (bs := ds.zip vs) (b := false) (fun p : D × V => PyData.int (lenT p.1)) hl.isList (each_zip ll rv) (fun d hd d' hd' => ?_) (.inr fun d hd => ?_) (by rw [List.length_zip, ll, Nat.min_self, ← ll]; exact hz) (fun p hp => ?_) (by unfold argsOk; kernel_rfl) (fun x => by unfold argsOk; kernel_rfl) (fun y => ksk_t4 "len" y) (fun u p ru hp h1 tk kp => ?_) fun out cc h2 tk kp fr hat hlen ho => ?_
  · obtain ⟨p, hp, rfl⟩ := List.mem_map.mp hd
    obtain ⟨p', hp', rfl⟩ := List.mem_map.mp hd'
    rfl
  · obtain ⟨p, hp, rfl⟩ := List.mem_map.mp hd
    exact ⟨fun z => (by cases z), fun xs z => (by cases z)⟩
  · show X.A.units + 2 + (PyData.int _).depth < cLine
    simp only [PyData.depth]
    omega
  · obtain ⟨d, v⟩ := p
    have hd := mem _ hp
    have t1 := c d hd
    have rep := zip_rep hr _ hp
    cases d with
    | tup es =>
      unfold Rep at rep
      obtain ⟨ad, ws, rfl, g1, g2⟩ := rep
      cases (show u = Value.ref ad from ru)
      obtain ⟨its2, rv2, ht2, hz2⟩ := I.tuple (SqT.of g1)
      have eln : its2.toArray.size = es.length := by rw [List.size_toArray, ← rv2.length, g2.length]
      refine len_tuple (IsTup.keeps ht2 kp) (by rw [eln, ← g2.length, rv2.length]; rw [sizeLine_eq] at hz2; rw [rv2.length] at hz2; omega) ⟨h1, _, rfl, fun b o e => e, ?_⟩
      have : lenT (.tup es) = its2.toArray.size := by unfold lenT; rw [eln]
      rw [this]
      exact .int _ _
    | ftu es =>
      unfold Rep at rep
      obtain ⟨ad, ws, oo, rfl, g1, _, g2⟩ := rep
      cases (show u = Value.ref ad from ru)
      obtain ⟨its2, rv2, ht2, hz2⟩ := I.tuple (SqT.fz g1)
      have eln : its2.toArray.size = es.length := by rw [List.size_toArray, ← rv2.length, g2.length]
      refine len_tuple (IsTup.keeps ht2 kp) (by rw [eln, ← g2.length, rv2.length]; rw [sizeLine_eq] at hz2; rw [rv2.length] at hz2; omega) ⟨h1, _, rfl, fun b o e => e, ?_⟩
      have : lenT (.ftu es) = its2.toArray.size := by unfold lenT; rw [eln]
      rw [this]
      exact .int _ _
    | _ => cases t1
  · have hs : ∀ p ∈ (ds.zip vs).mergeSort (PySem.W.dataLe false fun p : D × V => PyData.int (lenT p.1)), p ∈ ds.zip vs := fun p hp => (List.mergeSort_perm _ _).mem_iff.mp hp
    have hsl : ((ds.zip vs).mergeSort (PySem.W.dataLe false fun p : D × V => PyData.int (lenT p.1))).length = ds.length := by rw [List.length_mergeSort, List.length_zip, ll, Nat.min_self]
    have fst : ((ds.zip vs).mergeSort (PySem.W.dataLe false fun p : D × V => PyData.int (lenT p.1))).map (·.1) = ds.mergeSort leN := by
      have q := List.map_mergeSort (r := PySem.W.dataLe false fun p : D × V => PyData.int (lenT p.1)) (s := leN) (f := Prod.fst) (l := ds.zip vs) (fun a _ b _ => rfl)
      rw [map_fst_zip ll] at q
      exact q
    have rr := reps_zip (K := X.K) (H := H) (P := Pr1) fun p hp => zip_rep hr p (hs p hp)
    rw [fst] at rr
    have hle : (((ds.zip vs).mergeSort (PySem.W.dataLe false fun p : D × V => PyData.int (lenT p.1))).map (·.2)).length ≤ sizeLine := by rw [List.length_map, hsl, ← ll]; exact hz
    exact ⟨.ref (s.heap.objs.size + 1), upd H (s.heap.objs.size + 1) (.lst (((ds.zip vs).mergeSort (PySem.W.dataLe false fun p : D × V => PyData.int (lenT p.1))).map (·.2))), I.laid (t' := tk) kp (Nat.le_succ _) ⟨hle, out, cc, each_vals ho, hat⟩, rfl, h _ (I.hok.fresh (Nat.le_succ _)) _ rr hle⟩
theorem ce_sortN {p kpos lpos : Pos} (hm : X.mg "sorted" = none) (hml : X.mg "len" = none) (hv : bootBuiltins "sorted" = some (.builtin "sorted")) (hvl : bootBuiltins "len" = some (.builtin "len")) (ha : CEx X P0 O W E a ma) (hu : X.A.units + 65 < cLine)
    (hg : Gl X "sorted" := by rfl) (hgl : Gl X "len" := by rfl) (hn : ("sorted" : Str) ≠ "__name__" := by decide) (hdb2 : (("sorted" : Str) == ("__debug__" : Str)) = false := by decide) (hn3 : ("len" : Str) ≠ "__name__" := by decide) (hdb3 : (("len" : Str) == ("__debug__" : Str)) = false := by decide)
    (he0 : starEach [a] X.env = (false, eval a X.env) :: starEach [] X.env := by rfl) (he : backTo pos (starEach [a] X.env) = (false, eval a X.env) :: backTo pos (starEach [] X.env) := by rfl) (hpl : (backTo pos (starEach [a] X.env)).any (·.1) = false := by rfl) :
    CEx X P0 O W E (.Call (.Name "sorted" p) [a] [⟨some "key", .Name "len" lpos, kpos⟩] pos) (cSortN ma) := by
  refine ⟨fun pins s σ H Q I h => ?_⟩
  obtain ⟨ρ, S, h⟩ := h
  refine wpAny_Call_Name_kw (ld_blt I hg hm hv ?_ hn hdb2)
  have hA : PA X [a] _ := pa_cons ha pa_nil he0
  refine PyProof.Rows.callWith_kw (thn (hA.run pos pins s σ H (fun us H1 => ∃ u, us = [u] ∧ ∃ ρ1 hd, Sim X.K P0 O W ρ1 σ H1 ∧ Keep W σ H H1 ∧ HdR X.K P0 O H σ H1 hd u ∧ Res E W σ H ((hd.d ρ1).nox >>= fun d => (sortND d).nox >>= fun z => R.ok (Hd.fr z, ρ1)) fun a => ∀ v H', Sim X.K P0 O W a.2 σ H' → Keep W σ H H' → HdR X.K P0 O H σ H' a.1 v → Q v H') I ⟨ρ, S, h.of_bind.mono fun ⟨hd, ρ1⟩ g v H1 S1 k1 r1 => ⟨v, rfl, ρ1, hd, S1, k1, r1, g⟩⟩) fun us s1 ⟨vs, H1, I1, r1, u, e1, ρ1, hd, S1, k1, rh, g⟩ => ?_) he hpl (by rfl) (by rfl)
  subst e1
  obtain ⟨d, e2, g1⟩ := g.of_nox
  obtain ⟨z, e4, g3⟩ := g1.of_nox
  clear g g1
  obtain ⟨ds, ed⟩ : ∃ ds, d = .lst ds := by cases d <;> first | (cases e4; done) | exact ⟨_, rfl⟩
  subst ed
  have e4 : (if ds.all isTF = true then R.ok (D.lst (ds.mergeSort leN)) else R.stk) = R.ok z := e4
  by_cases cc : ds.all isTF = true
  case neg => rw [if_neg cc] at e4; cases e4
  rw [if_pos cc] at e4
  cases e4
  obtain ⟨b, ws, rfl, w1, w2⟩ := rh.d S1 e2
  obtain ⟨uv, e6, ruv⟩ := vals1 r1
  subst e6
  cases (show uv = Value.ref b from ruv)
  show wpAny _ _ (evalAll ((do let v ← eval (.Name "len" lpos) X.env; standAt pos; pure v) :: [])) _ _ s1
  refine wpAny_evalAll_cons (wpAny_bind (ld_blt I1 hgl hml hvl (wpAny_bind (wpAny_standAt (wpAny_pure (wpAny_evalAll_nil ?_)))) hn3 hdb3))
  refine sortN_run I1 (SqL.of w1) w2 cc hu fun p hp ws3 r3 _ => ?_
  exact (out_of (K := X.K) S1 k1 g3).newL S1.dom r3 hp
end
variable {ρ : Y.Env}
@[simp] theorem e_sortN {m : EM} : cSortN m ρ = (m ρ >>= fun p => (p.1.d p.2).nox >>= fun d => (sortND d).nox >>= fun z => R.ok (.fr z, p.2)) := id rfl
end Y

set_option Elab.async false
set_option linter.all false
set_option maxRecDepth 100000
set_option maxHeartbeats 4000000
namespace Y
open PySem PySem.Spec PyProof.Rows L2
section
variable {prog : Program} {w : World} {A : Around} {E : Value → Shared → Prop} {s : Shared} {e it T : Addr} {fp : List Addr} {n i : Nat} {P : Nat → Value → Prop} {St : Nat → Heap → Prop} {f : Bool} {old : Value}
theorem alive_any {a : Addr} {Q : Option Obj → Shared → Prop} (h : Q (s.heap.get? a) s) : wpAny (model prog w) A (loadIfAlive a) Q E s := fun _ _ _ => h
def EnA (h : Heap) (e it : Addr) (i : Int) : Prop := (∃ old, IsEnum h e it i old) ∨ ∃ old T f, IsEnumHeld h e it i old T f
theorem enumH_any {Q : Option Value → Shared → Prop} (D : Draws prog w A.in1 it fp n P St) (he : IsEnumHeld s.heap e it (i : Int) old T f) (hst : St i s.heap) (hlt : i < n) (hne : e ≠ it) (hef : e ∉ fp)
    (hQ : ∀ x h' tk, P i x → EnA h' e it ((i : Int) + 1) → St (i + 1) h' → h'.get? s.heap.objs.size = some { cls := .type "tuple", data := .seq #[.int i tk, x] } →
      (∀ b o, b ≠ e → b ≠ it → s.heap.get? b = some o → h'.get? b = some o) → Q (some (.ref s.heap.objs.size)) { s with heap := h', toks := tk + 1 }) : wpAny (model prog w) A (pyNext (.ref e)) Q E s := by
  have hTy : s.TypeIs (.ref e) "enumerate" := ⟨_, he, rfl⟩
  unfold pyNext
  refine wpAny_bind (wpAny_attempt (wpAny_callSpecial?_slot (name := Str.ofString "__next__") hTy PySem.F.slot_enumerate_next
    (wpAny_call_entry PySem.F.slot_enumerate_next hTy PySem.F.entry_enumerate_next ?_ (PySem.F.args_enumerate_next_1 _))))
  obtain ⟨hp, g, d, tk₀, os⟩ := s
  show wpAny _ _ (field (.ref e) 2 >>= _) _ _ _
  refine wpAny_bind (wpAny_field he rfl (x := .ref it) rfl ?_)
  refine wpAny_bind (D.item i _ _ _ hlt hst fun x h₁ tk hPx hit₁ hs₁ => ?_)
  replace hs₁ : Heap.SameBut it hp h₁ := hs₁
  have he₁ : IsEnumHeld h₁ e it (i : Int) old T f := (hs₁.2 e hne).trans he
  show wpAny _ _ (field (.ref e) 3 >>= _) _ _ ⟨h₁, g, d, tk, os⟩
  refine wpAny_bind (wpAny_field he₁ rfl (x := rawInt i) rfl ?_)
  show wpAny _ _ (field (.ref e) 4 >>= _) _ _ ⟨h₁, g, d, tk, os⟩
  refine wpAny_bind (wpAny_field he₁ rfl (x := .none) rfl ?_)
  show wpAny _ _ (mkInt i >>= _) _ _ ⟨h₁, g, d, tk, os⟩
  refine wpAny_bind (wpAny_mkInt ?_)
  show wpAny _ _ (setField (.ref e) 3 (rawInt ((i : Int) + 1)) >>= _) _ _ ⟨h₁, g, d, tk + 1, os⟩
  refine wpAny_bind (wpAny_setField_rec he₁ (by simp) fun h₂ he₂ hs₂ => ?_)
  replace hs₂ : Heap.SameBut e h₁ h₂ := hs₂
  replace he₂ : IsEnumHeld h₂ e it ((i : Int) + 1) old T f := he₂
  show wpAny _ _ (setField (.ref e) 4 .none >>= _) _ _ ⟨h₂, g, d, tk + 1, os⟩
  refine wpAny_bind (wpAny_setField_rec he₂ (by simp) fun h₃ he₃ hs₃ => ?_)
  replace hs₃ : Heap.SameBut e h₂ h₃ := hs₃
  replace he₃ : IsEnumHeld h₃ e it ((i : Int) + 1) old T f := he₃
  show wpAny _ _ (newTuple [.int i tk, x] >>= _) _ _ ⟨h₃, g, d, tk + 1, os⟩
  refine wpAny_bind (wpAny_newTuple ?_)
  have he₄ : IsEnumHeld (h₃.push { cls := .type "tuple", data := .seq #[.int i tk, x] }) e it ((i : Int) + 1) old T f := Heap.get?_push_of_some _ he₃
  generalize hh₄ : h₃.push { cls := .type "tuple", data := .seq #[.int i tk, x] } = h₄ at he₄
  have hsz : h₃.objs.size = hp.objs.size := by rw [hs₃.1, hs₂.1, hs₁.1]
  have hel : e < hp.objs.size := Heap.lt_size he
  have ht₄ : h₄.get? hp.objs.size = some { cls := .type "tuple", data := .seq #[.int i tk, x] } := by rw [← hh₄, ← hsz]; exact Heap.get?_push_size _ rfl
  have hk₄ : ∀ b o, b ≠ e → b ≠ it → hp.get? b = some o → h₄.get? b = some o := fun b o hbe hbi hb => by
    rw [← hh₄]; exact Heap.get?_push_of_some _ (hs₃.extBut b o hbe (hs₂.extBut b o hbe (hs₁.extBut b o hbi hb)))
  have hit₄ : St (i + 1) h₄ := D.frame _ _ _ hit₁ fun b hb o y => by
    have hbe : b ≠ e := fun q => hef (q ▸ hb)
    rw [← hh₄]; exact Heap.get?_push_of_some _ (hs₃.extBut b o hbe (hs₂.extBut b o hbe y))
  show wpAny _ _ (Builtin.SmallTypes.ownedTupleIsFree (.ref e) >>= _) _ _ ⟨h₄, g, d, tk + 1, os⟩
  rw [hsz]
  clear hh₄ he₃ hs₃ he₂ hs₂ he₁ hs₁ hit₁ hsz h₃ h₂ h₁
  cases hT : h₄.get? T with
  | some oT =>
    refine wpAny_bind (wpAny_tupleHeld_enum (s := ⟨h₄, g, d, tk + 1, os⟩) he₄ hT fun h₅ he₅ hs₅ => ?_)
    replace hs₅ : Heap.SameBut e h₄ h₅ := hs₅
    simp only [Bool.false_eq_true, if_false]
    refine wpAny_pure ⟨_, rfl, wpAny_pure (hQ x h₅ tk hPx (.inr ⟨_, _, _, he₅⟩) ?_ (hs₅.extBut _ _ (Nat.ne_of_gt hel) ht₄) fun b o hbe hbi hb => hs₅.extBut b o hbe (hk₄ b o hbe hbi hb))⟩
    exact D.frame _ _ _ hit₄ fun b hb o y => hs₅.extBut b o (fun q => hef (q ▸ hb)) y
  | none =>
    refine wpAny_bind ?_
    unfold Builtin.SmallTypes.ownedTupleIsFree
    refine wpAny_bind (wpAny_field he₄ rfl (x := rawInt T) rfl ?_)
    show wpAny _ _ (loadIfAlive ((T : Int).toNat) >>= _) _ _ _
    rw [Int.toNat_natCast]
    refine wpAny_bind (alive_any ?_)
    show wpAny _ _ (if (h₄.get? T).isNone = true then _ else _) _ _ _
    rw [hT]
    simp only [Option.isNone_none, if_true]
    refine wpAny_pure ?_
    simp only [if_true]
    refine wpAny_bind (wpAny_rule ?_)
    refine wpAny_bind (wpAny_field he₄ rfl (x := old) rfl ?_)
    refine wpAny_bind (wpAny_setField_rec he₄ (by simp) fun h₅ he₅ hs₅ => ?_)
    replace hs₅ : Heap.SameBut e h₄ h₅ := hs₅
    replace he₅ : IsEnumHeld h₅ e it ((i : Int) + 1) x T f := he₅
    show wpAny _ _ (Builtin.SmallTypes.ownedTupleHandOut (.ref e) (.ref hp.objs.size) >>= _) _ _ ⟨h₅, g, d, tk + 1, os⟩
    refine wpAny_bind ?_
    unfold Builtin.SmallTypes.ownedTupleHandOut
    refine wpAny_bind (wpAny_setField_rec he₅ (by simp) fun h₆ he₆ hs₆ => ?_)
    replace hs₆ : Heap.SameBut e h₅ h₆ := hs₆
    replace he₆ : IsEnumHeld h₆ e it ((i : Int) + 1) x hp.objs.size f := he₆
    refine wpAny_setField_rec he₆ (by simp) fun h₇ he₇ hs₇ => ?_
    replace hs₇ : Heap.SameBut e h₆ h₇ := hs₇
    replace he₇ : IsEnumHeld h₇ e it ((i : Int) + 1) x hp.objs.size false := he₇
    refine wpAny_bind (wpAny_letGo (wpAny_pure ⟨_, rfl, wpAny_pure (hQ x h₇ tk hPx (.inr ⟨_, _, _, he₇⟩) ?_ ?_ ?_)⟩))
    · exact D.frame _ _ _ hit₄ fun b hb o y => by
        have hbe : b ≠ e := fun q => hef (q ▸ hb)
        exact hs₇.extBut b o hbe (hs₆.extBut b o hbe (hs₅.extBut b o hbe y))
    · exact hs₇.extBut _ _ (Nat.ne_of_gt hel) (hs₆.extBut _ _ (Nat.ne_of_gt hel) (hs₅.extBut _ _ (Nat.ne_of_gt hel) ht₄))
    · exact fun b o hbe hbi hb => hs₇.extBut b o hbe (hs₆.extBut b o hbe (hs₅.extBut b o hbe (hk₄ b o hbe hbi hb)))
theorem enA_item {Q : Option Value → Shared → Prop} (D : Draws prog w A.in1 it fp n P St) (he : EnA s.heap e it (i : Int)) (hst : St i s.heap) (hlt : i < n) (hne : e ≠ it) (hef : e ∉ fp)
    (hQ : ∀ x h' tk, P i x → EnA h' e it ((i : Int) + 1) → St (i + 1) h' → h'.get? s.heap.objs.size = some { cls := .type "tuple", data := .seq #[.int i tk, x] } →
      (∀ b o, b ≠ e → b ≠ it → s.heap.get? b = some o → h'.get? b = some o) → Q (some (.ref s.heap.objs.size)) { s with heap := h', toks := tk + 1 }) : wpAny (model prog w) A (pyNext (.ref e)) Q E s := by
  rcases he with ⟨old, he⟩ | ⟨old, T, f, he⟩
  · exact wpAny_pyNext_enum_itemD D he hst hlt hne hef fun x h' tk p1 ho s1 hT hsz hk => hQ x h' tk p1 (.inr ⟨x, _, false, ho⟩) s1 hT hk
  · exact enumH_any D he hst hlt hne hef hQ
theorem enA_end {Q : Option Value → Shared → Prop} (D : Draws prog w A.in1 it fp n P St) (he : EnA s.heap e it (i : Int)) (hst : St n s.heap) (hQ : ∀ h', Heap.ExtBut it s.heap h' → Q none { s with heap := h' }) : wpAny (model prog w) A (pyNext (.ref e)) Q E s := by
  rcases he with ⟨old, he⟩ | ⟨old, T, f, he⟩
  · exact wpAny_pyNext_enum_endD D he hst hQ
  · exact enumH_end D he hst hQ
end
def tnN (n : Nat) (t : Tok) (k : Kd) (i : Nat) (h : Heap) : Prop := EnA h (n + 1) n ((i : Nat) : Int) ∧ k.at n t i h
theorem enA_obj {h : Heap} {e it : Addr} {i : Int} (x : EnA h e it i) : ∃ vs, h.get? e = some { cls := .type "enumerate", dict := none, data := .fields vs, slots := #[] } := by
  rcases x with ⟨old, he⟩ | ⟨old, T, f, he⟩
  · exact ⟨_, he⟩
  · exact ⟨_, he⟩
theorem enA_keep {h h' : Heap} {e it : Addr} {i : Int} (x : EnA h e it i) (k : ∀ o, h.get? e = some o → h'.get? e = some o) : EnA h' e it i := by
  rcases x with ⟨old, he⟩ | ⟨old, T, f, he⟩
  · exact .inl ⟨old, k _ he⟩
  · exact .inr ⟨old, T, f, k _ he⟩
theorem turn_enumN {P : Program} {w : World} {K : PySem.W.Frag} {nm : Str} {tpos : Pos} {k : Kd} {n : Nat} {t : Tok} (c : k.lo n) :
    Turn P w K (.Name nm tpos) (IteG K k) (fp2 n) (n + 1) (tnN n t k) where
  mem := by simp
  obj := fun i h ⟨q0, q1⟩ b hb => by
    have hb : b = n + 1 ∨ b = n := by simpa using hb
    rcases hb with rfl | rfl
    · obtain ⟨vs, he⟩ := enA_obj q0
      exact ⟨_, he, fun v q => nomatch q⟩
    · exact Kd.at_ob q1
  keep := fun i h h' ⟨q0, q1⟩ k => ⟨enA_keep q0 (k _ (by simp)), Kd.at_k q1 (k _ (by simp))⟩
  item := by
    intro X hP hw hK hc i pins s σ H E I hf ⟨q0, q1⟩ ⟨xs, x, g1, ex⟩
    subst hP hw hK
    have hh : X.A.in1.handled = none := by simp [I.ok.hd hc]
    obtain ⟨fp1, P1, S1, d1, s1⟩ := Kd.draw (A := X.A.in1) hh I g1 (fun a e => ad (by have := Kd.lo_ne c a e; omega)) q1
    obtain ⟨vs0, he0⟩ := enA_obj q0
    have hel : n + 1 < s.heap.objs.size := Heap.lt_size he0
    have hef : n + 1 ∉ fp1 := fun z => by
      rcases d1.lo _ z with e | ⟨a, e, e2⟩
      · have e : n + 1 = n := e
        omega
      · have := Kd.lo_ne c a e2
        have e : n + 1 = a := e
        omega
    refine enA_item d1.dr q0 s1 (List.getElem?_eq_some_iff.mp ex).1 (ad (by omega)) hef fun u h' tk p1 ho s1' hT hk => ?_
    obtain ⟨x', ex', r1⟩ := d1.item _ _ p1
    rw [ex] at ex'; cases ex'
    refine ⟨_, rfl, wpAny_pure ?_⟩
    have new : ObjOk X.prog X.w (upd H s.heap.objs.size (.tup [.int (i : Nat), x])) h' s.heap.objs.size (.tup [.int (i : Nat), x]) := ⟨by show 2 ≤ sizeLine; decide, [.int i tk, u], .cons ⟨_, rfl⟩ (.cons r1 .nil), ⟨_, hT, rfl, _, rfl⟩⟩
    have I1 : Inv X pins σ (upd H s.heap.objs.size (.tup [.int (i : Nat), x])) { s with heap := h', toks := tk + 1 } :=
      I.turnedNew (t' := tk + 1) (ch := fp2 n) (fun b o hb q => hk b o (fun e => hb (by simp [e])) (fun e => hb (by simp [e])) q) hf (Nat.le_refl _) new
    refine ⟨.ref s.heap.objs.size, _, I1, rfl, ⟨_, x, rfl, I.hok.fresh (Nat.le_refl _), rfl, fun l hl => by rw [Kd.inj I hl g1]; exact ex⟩, ⟨?_, d1.back _ _ s1'⟩, fun b hb => ?_⟩
    · have e1 : ((i + 1 : Nat) : Int) = (i : Int) + 1 := by omega
      rw [e1]; exact ho
    · have hb' : b = n + 1 ∨ b = n := by simpa using hb
      rw [upd_ne (by rcases hb' with e | e <;> (rw [e]; exact ad (by omega)))]
      exact (hf b hb).1
  done := by
    intro X hP hw hK hc i pins s σ H E I hf ⟨q0, q1⟩ ⟨xs, g1, ei⟩
    subst hP hw hK
    have hh : X.A.in1.handled = none := by simp [I.ok.hd hc]
    obtain ⟨fp1, P1, S1, d1, s1⟩ := Kd.draw (A := X.A.in1) hh I g1 (fun a e => ad (by have := Kd.lo_ne c a e; omega)) q1
    subst ei
    exact enA_end d1.dr q0 s1 fun h' eb => ⟨rfl, I.turnedL (t' := s.toks) (ch := fp2 n) (fun b o hb q => eb b o (fun e => hb (by simp [e])) q) hf⟩
  self := fun A i s Q E ⟨q0, _⟩ h => by
    obtain ⟨vs, he⟩ := enA_obj q0
    have hT : s.TypeIs (.ref (n + 1)) "enumerate" := ⟨_, he, rfl⟩
    refine wpAny_pyIter_slot hT PySem.F.slot_enumerate_iter (wpAny_call_entry PySem.F.slot_enumerate_iter hT PySem.F.entry_enumerate_iter ?_ (PySem.F.args_enumerate_iter_1 _))
    show wpAny _ _ (ret (.ref (n + 1))) _ _ s
    exact wpAny_pure ⟨_, rfl, "enumerate", _, hT, PySem.F.slot_enumerate_next.lookup, h⟩
section
variable {X : Cx} {P0 : Pr} {O W : List Nat} {E : EK} {a e : Expr} {ms : AM} {pos : Pos}
theorem pi_enumN {ta : TA} {p tpos : Pos} {nm : Str} (hg : Gl X "enumerate") (hm : X.mg "enumerate" = none) (ha : PA X [e] ta) (hs : starEach [e] X.env = [(false, eval e X.env)] := by rfl) :
    PI X (.Name nm tpos) (.Call (.Name "enumerate" p) [e] [] pos) (iEnumG X.K ta) := ⟨fun pins s σ H R I h =>
  Call_ (ld_blt I hg hm boot_enumerate (PyProof.Rows.callWith_type1 (thn (ha.run pos pins s σ H _ I h) fun us s1 ⟨vs, H1, I1, r1, q1⟩ => by
    obtain ⟨k, xs, ex, h1, q⟩ := q1
    subst ex
    obtain ⟨u, rfl, r2⟩ := vals1 r1
    have fin : ∀ (tk : Tok) (h' : Heap), k.lo s1.heap.objs.size → IsEnum h' (s1.heap.objs.size + 1) s1.heap.objs.size 0 .none → k.at s1.heap.objs.size tk 0 h' → (∀ c o, s1.heap.get? c = some o → h'.get? c = some o) → PIE X pins σ (.Name nm tpos) R (.ref (s1.heap.objs.size + 1)) { s1 with heap := h' } := fun tk h' lo he hit hk =>
      ⟨s1.heap.objs.size + 1, fp2 s1.heap.objs.size, tnN s1.heap.objs.size tk k, _, H1, rfl, I1.kept (t' := s1.toks) hk, turn_enumN lo, ⟨.inl ⟨.none, he⟩, hit⟩, fun b hb => by
        have hb' : b = s1.heap.objs.size + 1 ∨ b = s1.heap.objs.size := by simpa using hb
        have le : s1.heap.objs.size ≤ b := by rcases hb' with e | e <;> (rw [e]; first | exact Nat.le_refl _ | exact Nat.le_add_right _ _)
        exact I1.fpOk le (I1.hok.fresh le), q⟩
    cases k with
    | l a =>
      obtain ⟨its, rv, p, _⟩ := I1.list h1
      cases r2
      exact call_enumerate_list p.isList fun h' he hit hsz hk => wpAny_pyIter_enum he (fin 0 h' p.lt he hit hk)
    | t a =>
      obtain ⟨its, rv, p, _⟩ := I1.tuple h1
      cases r2
      have p : s1.heap.IsTuple a its.toArray := p
      obtain ⟨o, e, _⟩ := id p
      exact call_enumT p fun h' he hit hk => wpAny_pyIter_enum he (fin 0 h' (Heap.lt_size e) he hit hk)
    | s z =>
      obtain ⟨tk, rfl⟩ := r2
      exact call_enumerate_str fun h' he hit hsz hk => wpAny_pyIter_enum he (fin tk h' trivial he hit hk)) hs rfl))⟩
theorem ci_enumN {p tpos : Pos} {nm : Str} (hm : X.mg "enumerate" = none) (ha : CA X P0 O W E [a] ms) (hg : Gl X "enumerate" := by rfl) (hs : starEach [a] X.env = [(false, eval a X.env)] := by rfl) :
    CI X P0 O W E (.Name nm tpos) (.Call (.Name "enumerate" p) [a] [] pos) (cEnumG ms) := PI.imp (pi_enumN hg hm ha hs) fun σ H _ ⟨ρ, S, h⟩ => by
  refine ⟨ρ, S, h.of_bind.mono fun ⟨hs, ρ1⟩ q vs H1 S1 k1 r1 => ?_⟩
  match hs, r1, q with
  | [h], r1, q =>
    obtain ⟨v, ws, rfl, t1, t2⟩ := r1
    have t2 : ws = [] := t2
    subst t2
    obtain ⟨x, ex, q1⟩ := Res.of_nox (show Res E W σ H ((h.d ρ1).nox >>= _) _ from q)
    obtain ⟨ds, e1, q3⟩ := q1.of_nox
    clear q q1
    by_cases c : szOk (numD ds).length = true
    · rw [if_pos c] at q3
      obtain ⟨c1, vs1, rfl, f1, _, g1⟩ := (t1.d S1 ex).kd e1
      exact ⟨c1, vs1, rfl, f1, q3 _ H1 _ S1 k1 (src_enumG e1 g1) (t1.hold ex) (of_decide_eq_true c)⟩
    · rw [if_neg c] at q3
      exact q3.elim
  | [], _, q => exact q.elim
  | _ :: _ :: _, _, q => exact q.elim
end
end Y

set_option Elab.async false
set_option linter.all false
set_option maxRecDepth 100000
set_option maxHeartbeats 4000000
namespace Y
open PySem PySem.Spec PyProof.Rows L2
def hsOf : List D → Option (List (List (List Int)))
  | [] => some []
  | .ftu es :: r => match tupsOf es with
    | some x => (hsOf r).map (x :: ·)
    | none => none
  | _ :: _ => none
def hdD (h : List (List Int)) : D := .ftu (h.map tpD)
def hdP (h : List (List Int)) : PyData := .tuple (h.map tpP)
def minH (n : List (List Int)) (ns : List (List (List Int))) : List (List Int) := ns.foldl (fun a y => if PySem.W.dataLt (hdP y) (hdP a) = true then y else a) n
def minHD : List D → R D
  | [.lst ds] => match hsOf ds with
    | some (n :: ns) => .ok (hdD (minH n ns))
    | _ => .stk
  | _ => .stk
theorem hsOf_inv : ∀ {ds : List D} {hs : List (List (List Int))}, hsOf ds = some hs → ds = hs.map hdD
  | [], hs, e => by cases e; rfl
  | d :: ds, hs, e => by
    cases d with
    | ftu es =>
      have e : (match tupsOf es with | some x => (hsOf ds).map (x :: ·) | none => none) = some hs := e
      cases et : tupsOf es with
      | none => rw [et] at e; cases e
      | some x =>
        rw [et] at e
        cases er : hsOf ds with
        | none => rw [er] at e; cases e
        | some r =>
          rw [er] at e
          cases e
          rw [List.map_cons, ← hsOf_inv er]
          congr 1
          unfold hdD
          congr 1
          exact tupsOf_inv et
    | _ => cases e
theorem toPys_hd : ∀ {hs : List (List (List Int))}, toPys (hs.map hdD) = hs.map hdP
  | [] => rfl
  | h :: hs => by
    have ih := toPys_hd (hs := hs)
    have e : toPys (h.map tpD) = h.map tpP := toPys_tp
    show toPy (hdD h) :: toPys (hs.map hdD) = _
    rw [ih]
    show PyData.tuple (toPys (h.map tpD)) :: _ = _
    rw [e]
    rfl
theorem toPy_hd {h : List (List Int)} : toPy (hdD h) = hdP h := by
  show PyData.tuple (toPys (h.map tpD)) = _
  rw [toPys_tp]
  rfl
theorem lay_hd {h : List (List Int)} : (hdP h).canLay0 = true := by
  unfold hdP
  rw [PyData.canLay0]
  exact lay_tp
theorem lay_hds : ∀ {hs : List (List (List Int))}, PyData.canLayAll0 (hs.map hdP) = true
  | [] => by simp [PyData.canLayAll0]
  | h :: hs => by
    have ih := lay_hds (hs := hs)
    have := lay_hd (h := h)
    simp [PyData.canLayAll0, this, ih]
theorem alike_tps : ∀ {a b : List (List Int)}, PySem.W.alikeAll (a.map tpP) (b.map tpP) = true
  | [], _ => by simp [PySem.W.alikeAll]
  | _ :: _, [] => by simp [PySem.W.alikeAll]
  | x :: xs, y :: ys => by
    have ih := alike_tps (a := xs) (b := ys)
    have h1 : PySem.W.alike (tpP x) (tpP y) = true := by
      unfold tpP
      rw [PySem.W.alike]
      exact alike_int
    rw [List.map_cons, List.map_cons, PySem.W.alikeAll, h1, ih]
    rfl
theorem alike_hd {a b : List (List Int)} : PySem.W.alike (hdP a) (hdP b) = true := by
  unfold hdP
  rw [PySem.W.alike]
  exact alike_tps
theorem alike_hds {hs : List (List (List Int))} : PySem.W.AlikeAll (hs.map hdP) := ⟨fun x hx y hy => by
  obtain ⟨a, _, rfl⟩ := List.mem_map.mp hx
  obtain ⟨b, _, rfl⟩ := List.mem_map.mp hy
  exact alike_hd, fun x hx z => by
  obtain ⟨i, _, rfl⟩ := List.mem_map.mp hx
  cases z⟩
theorem depth_hd {h : List (List Int)} : (hdP h).depth ≤ 3 := by
  unfold hdP
  rw [PyData.depth]
  have := depth_tp (xs := h)
  omega
theorem depth_hds : ∀ {hs : List (List (List Int))}, PyData.depthAll (hs.map hdP) ≤ 3
  | [] => by simp [PyData.depthAll]
  | h :: hs => by
    have ih := depth_hds (hs := hs)
    have := depth_hd (h := h)
    rw [List.map_cons, PyData.depthAll]
    omega
theorem min_hd : ∀ {ns : List (List (List Int))} {n : List (List Int)}, PySem.W.minD (hdP n) (ns.map hdP) = hdP (minH n ns)
  | [], n => rfl
  | y :: ns, n => by
    show PySem.W.minD (if PySem.W.dataLt (hdP y) (hdP n) = true then hdP y else hdP n) (ns.map hdP) = hdP (minH (if PySem.W.dataLt (hdP y) (hdP n) = true then y else n) ns)
    by_cases c : PySem.W.dataLt (hdP y) (hdP n) = true
    · rw [if_pos c, if_pos c]; exact min_hd
    · rw [if_neg c, if_neg c]; exact min_hd
theorem hdP_inj {a b : List (List Int)} (h : hdP a = hdP b) : a = b := by
  unfold hdP at h
  injection h with h
  exact (List.map_inj_right fun x y e => tpP_inj e).mp h
section
variable {X : Cx}
theorem cd_minH (hc : X.calm = true) (hu : X.A.units + 64 < cLine) : CallR X (.builtin "min") (rDs X.K minHD) := by
  intro pins s σ H xs us Q I r ⟨P, ds, dz, hm, rs, e, out⟩
  unfold minHD at e
  split at e
  · rename_i ds0
    split at e
    · rename_i n ns et
      cases e
      obtain ⟨v, rfl, r1⟩ := rs.get1
      obtain ⟨a, vs, rfl, h1, h2⟩ := r1.lst
      obtain ⟨u, e3, ru⟩ := vals1 r
      subst e3
      cases (show u = Value.ref a from ru)
      obtain ⟨its, rv, hl, hz⟩ := I.list (SqL.of h1)
      have ed := hsOf_inv et
      have ep : toPys ds0 = (n :: ns).map hdP := by rw [ed, toPys_hd]
      have dp := Reps.dp ds0 (by rw [ep]; exact lay_hds) h2
      obtain ⟨as, ra⟩ := Dp.readsAll I _ _ _ dp rv
      rw [ep] at ra
      refine PySem.W.min_list_data (x := hdP n) (xs := ns.map hdP) (I.ok.hd hc) hl.isList (by simpa using ra) (alike_hds (hs := n :: ns)) (by
        have := depth_hds (hs := n :: ns)
        rw [List.map_cons] at this
        omega) fun i v h' tk bs hi hr hk => ?_
      rw [min_hd] at hr
      obtain ⟨w, hw, rw1⟩ := vals_atM rv i v (by simpa using hi)
      have ll := h2.length
      have il : i < ds0.length := by
        have := (List.getElem?_eq_some_iff.mp hw).1
        omega
      have ix : i < (n :: ns).length := by rw [ed, List.length_map] at il; exact il
      have dsi : ds0[i]? = some (hdD (n :: ns)[i]) := by rw [ed, List.getElem?_map, List.getElem?_eq_getElem ix]; rfl
      have rep := zip_rep h2 (hdD (n :: ns)[i], w) (List.mem_iff_getElem?.mpr ⟨i, List.getElem?_zip_eq_some.mpr ⟨dsi, hw⟩⟩)
      have ly : (toPy (hdD (n :: ns)[i])).canLay0 = true := by rw [toPy_hd]; exact lay_hd
      obtain ⟨cs, rd⟩ := Dp.reads I _ _ _ (Rep.dp _ ly rep) rw1
      have det := (reads_det (fun b o eb _ => hk b o eb) rd hr).1
      rw [toPy_hd] at det
      have e4 := hdP_inj det
      refine ⟨w, H, I.kept hk, rw1, out w H (Same.refl _) ?_ (fun z => by cases z)⟩
      rw [e4]
      exact rep
    · cases e
  · cases e
end
theorem hsOf_map {hs : List (List (List Int))} : hsOf (hs.map hdD) = some hs := by
  induction hs with
  | nil => rfl
  | cons h hs ih =>
    show (match tupsOf (h.map tpD) with | some x => (hsOf (hs.map hdD)).map (x :: ·) | none => none) = _
    have : tupsOf (h.map tpD) = some h := tups_map h
    rw [this, ih]
    rfl
theorem d_minH {n : List (List Int)} {ns : List (List (List Int))} : minHD [.lst ((n :: ns).map hdD)] = .ok (hdD (minH n ns)) := by
  show (match hsOf ((n :: ns).map hdD) with | some (n :: ns) => R.ok (hdD (minH n ns)) | _ => .stk) = _
  rw [hsOf_map]
end Y

set_option Elab.async false
set_option linter.all false
set_option maxRecDepth 100000
set_option maxHeartbeats 4000000
namespace Y
open PySem PySem.Spec PyProof.Rows L2
def addGD : D → D → R D
  | .ftu xs, .ftu ys => if szOk (xs.length + ys.length) = true then (if xs.isEmpty = true then .ok (.ftu ys) else if ys.isEmpty = true then .ok (.ftu xs) else .ok (.ftu (xs ++ ys))) else .stk
  | _, _ => .stk
section
variable {X : Cx}
theorem op_catG {pins : List (Addr × Obj)} {s : Shared} {σ : L2.St} {H : Hp} {v u : Value} {Q : VK} {a b : Addr} {xs ys : List V} (I : Inv X pins σ H s) (rx : L2.RelV (.ref a) v) (ry : L2.RelV (.ref b) u) (ha : SqT X.K H a xs) (hb : SqT X.K H b ys) (hz : xs.length + ys.length ≤ sizeLine)
    (q0 : xs = [] → Q (.ref b) H) (q1 : xs ≠ [] → ys = [] → Q (.ref a) H) (q2 : xs ≠ [] → ys ≠ [] → ∀ p o, H p = none → o.dict = none → Q (.ref p) (upd H p (.frz o (.tup (xs ++ ys))))) : wpAny (model X.prog X.w) X.A (binaryOp .Add v u) (EP X pins σ Q) X.xe s := by
  cases rx
  cases ry
  obtain ⟨its, r1, p1, _⟩ := I.tuple ha
  obtain ⟨its2, r2, p2, _⟩ := I.tuple hb
  by_cases hx : xs = []
  · subst hx
    cases r1
    exact cat_tup0 p1 p2 ⟨.ref b, H, I, rfl, q0 rfl⟩
  · refine HT.cat_tup p1 p2 (fun z => hx (r1.nil_iff.mp z)) (fun z => ⟨.ref a, H, I, rfl, q1 hx (r2.nil_iff.mp z)⟩) (fun z => ?_) (by rw [← r1.length, ← r2.length]; exact hz)
    refine ⟨.ref s.heap.objs.size, _, I.laid (t' := s.toks) (o := .frz _ (.tup (xs ++ ys))) (fun b ob q => Heap.get?_push_of_some _ q) (Nat.le_refl _) ⟨Heap.get?_push_size _ rfl, by rw [List.length_append]; exact hz, _, r1.append r2, IsTup.new _ _⟩, rfl, q2 hx (fun w => z (r2.nil_iff.mpr w)) _ _ (I.hok.fresh (Nat.le_refl _)) rfl⟩
theorem od_addG : OpR X (binaryOp .Add) (rD X.K addGD) := by
  intro pins s σ H x y v u Q I rx ry ⟨P, dx, dy, dz, hm, r1, r2, e, out⟩
  unfold addGD at e
  split at e
  · obtain ⟨a, vs, o, rfl, t1, d1, h1⟩ := r1.ftu
    obtain ⟨b, ws, o2, rfl, t2, d2, h2⟩ := r2.ftu
    split at e
    · rename_i xs ys c
      have l1 := h1.length
      have l2 := h2.length
      refine op_catG I rx ry (SqT.fz t1) (SqT.fz t2) (by rw [l1, l2]; exact of_decide_eq_true c) (fun z => ?_) (fun nz z => ?_) fun n1 n2 p oo hp hd => ?_
      · subst z
        have z := List.length_eq_zero_iff.mp (show _ = 0 from l1.symm)
        subst z
        cases e
        exact out.flat (Rep.ftu_of t2 d2 h2) rfl
      · subst z
        have z := List.length_eq_zero_iff.mp (show _ = 0 from l2.symm)
        subst z
        have nx : xs.isEmpty = false := by
          cases xs with
          | nil => exact absurd (List.length_eq_zero_iff.mp l1) nz
          | cons _ _ => rfl
        rw [nx] at e
        cases e
        exact out.flat (Rep.ftu_of t1 d1 h1) rfl
      · have nx : xs.isEmpty = false := by
          cases xs with
          | nil => exact absurd (List.length_eq_zero_iff.mp l1) n1
          | cons _ _ => rfl
        have ny : ys.isEmpty = false := by
          cases ys with
          | nil => exact absurd (List.length_eq_zero_iff.mp l2) n2
          | cons _ _ => rfl
        rw [nx, ny] at e
        cases e
        exact out.newF hm hd (h1.append h2) hp
    · cases e
  · cases e
end
@[simp] theorem d_addG {xs ys : List D} : addGD (.ftu xs) (.ftu ys) = if szOk (xs.length + ys.length) = true then (if xs.isEmpty = true then .ok (.ftu ys) else if ys.isEmpty = true then .ok (.ftu xs) else .ok (.ftu (xs ++ ys))) else .stk := id rfl
end Y

set_option Elab.async false
set_option linter.all false
set_option maxRecDepth 100000
namespace C
open PySem PySem.Spec PyProof.Rows L2 Y
/-- slots: 0:thing -/
noncomputable def m_is_whole : SM := sRet (cAnd (cIsi isInt (cVar 0)) (cNot (cIsi isBl (cVar 0))))
noncomputable def g_is_whole : List D → R Hd := fnP 1 1 m_is_whole
/-- slots: 0:thing 1:many -/
noncomputable def m_is_upto : SM := sRet (cAnd (cCallF g_is_whole (cCons (cVar 0) (cNil))) (cChain leD ltD (cC (.int 0)) (cVar 0) (cVar 1)))
noncomputable def g_is_upto : List D → R Hd := fnP 2 2 m_is_upto
/-- slots: 0:thing 1:many 2:one -/
noncomputable def e_are_bits_1 : EM := cCallF g_is_upto (cCons (cVar 2) (cCons (cC (.int 2)) (cNil)))
noncomputable def m_are_bits : SM := sRet (cAnd (cIsi isTup (cVar 0)) (cAnd (cOp eqD (cCall lenD (cCons (cVar 0) (cNil))) (cVar 1)) (cCall allD (cCons (cComp (cIter (cVar 0)) (tmName 2) (cYes) (e_are_bits_1) [2]) (cNil)))))
noncomputable def g_are_bits : List D → R Hd := fnP 2 3 m_are_bits
/-- slots: 0:net 1:thing -/
noncomputable def m_is_stand : SM := sRet (cCallF g_are_bits (cCons (cVar 1) (cCons (cCall lenD (cCons (cVar 0) (cNil))) (cNil))))
noncomputable def g_is_stand : List D → R Hd := fnP 2 2 m_is_stand
/-- slots: 0:net 1:thing -/
noncomputable def m_look_at_stand : SM := sIf (cNotT (cTru (cCallF g_is_stand (cCons (cVar 0) (cCons (cVar 1) (cNil)))))) (sRaise "NoStand") (sSkip)
noncomputable def g_look_at_stand : List D → R Hd := fnP 2 2 m_look_at_stand
/-- slots: 0:script 1:k -/
noncomputable def m__law_cell : SM := sSeq (sIf (cBl (cOp ltD (cVar 1) (cCall lenD (cCons (cVar 0) (cNil))))) (sRet (cIx (cVar 0) (cVar 1))) (sSkip)) (sRet (cOp addD (cOp mulD (cC (.int 6151)) (cVar 1)) (cC (.int 29))))
noncomputable def g__law_cell : List D → R Hd := fnP 2 2 m__law_cell
/-- slots: 0:cell 1:k 2:number -/
noncomputable def m__law_mix : SM := sSeq (sAsg (cOp addD (cOp mulD (cOp addD (cVar 0) (cC (.int 1))) (cC (.int 40692))) (cOp mulD (cC (.int 104729)) (cVar 1))) (tmName 2)) (sSeq (sAsg (cOp addD (cOp modD (cOp mulD (cVar 2) (cVar 2)) (cC (.int 2147483399))) (cVar 1)) (tmName 2)) (sRet (cOp modD (cOp mulD (cVar 2) (cOp addD (cVar 2) (cC (.int 31)))) (cC (.int 2147483563)))))
noncomputable def g__law_mix : List D → R Hd := fnP 2 3 m__law_mix
/-- slots: 0:script 1:k 2:here 3:number 4:j -/
noncomputable def b__law_box_1 : SM := sAsg (cOp addD (cOp mulD (cVar 3) (cC (.int 2147483647))) (cCallF g__law_mix (cCons (cVar 2) (cCons (cVar 4) (cNil))))) (tmName 3)
noncomputable def m__law_box : SM := sSeq (sAsg (cCallF g__law_cell (cCons (cVar 0) (cCons (cVar 1) (cNil)))) (tmName 2)) (sSeq (sIf (cBl (cOp eqD (cOp modD (cVar 2) (cC (.int 2))) (cC (.int 0)))) (sRet (cLst (cCons (cOp fdivD (cVar 2) (cC (.int 2))) (cNil)))) (sSkip)) (sSeq (sAsg (cC (.int 0)) (tmName 3)) (sSeq (sFor [] (cRange rng1D (cCons (cC (.int 24)) (cNil))) (tmName 4) (b__law_box_1) [4]) (sRet (cLst (cCons (cVar 3) (cNil)))))))
noncomputable def g__law_box : List D → R Hd := fnP 2 5 m__law_box
/-- slots: 0:box 1:many 2:left 3:digit -/
noncomputable def m__law_take : SM := sSeq (sAsg (cCall divmodD (cCons (cIx (cOwn 0) (cC (.int 0))) (cCons (cVar 1) (cNil)))) (tmTup [2, 3])) (sSeq (sSetIx 0 (cC (.int 0)) (cVar 2)) (sRet (cVar 3)))
noncomputable def g__law_take : Fn := fnD 2 4 [0] m__law_take
/-- slots: 0:box 1:many 2:ears 3:size 4:number 5:mask 6:least 7:table 8:place 9:j -/
noncomputable def t__law_rule_1 : BM := cBl (cOp eqD (cCallIO [(0, 0)] g__law_take (cCons (cOwn 0) (cCons (cC (.int 3)) (cNil)))) (cC (.int 0)))
noncomputable def e__law_rule_1 : EM := cVar 9
noncomputable def e__law_rule_2 : EM := cOp andD (cOp shrD (cVar 4) (cVar 8)) (cC (.int 1))
noncomputable def e__law_rule_3 : EM := cOp andD (cOp shrD (cOp xorD (cVar 8) (cVar 5)) (cVar 9)) (cC (.int 1))
noncomputable def b__law_rule_1 : SM := sAppend 7 (cCall intOfD (cCons (cOp geD (cCall sumD (cCons (cComp (cRange rng1D (cCons (cCall lenD (cCons (cVar 2) (cNil))) (cNil))) (tmName 9) (cYes) (e__law_rule_3) [9]) (cNil))) (cVar 6)) (cNil)))
noncomputable def m__law_rule : SM := sSeq (sAsg (cCall tupleD (cCons (cSlice (cComp (cRange rng1D (cCons (cVar 1) (cNil))) (tmName 9) (t__law_rule_1) (e__law_rule_1) [9]) (cNoPart) (cPart (cC (.int 4)))) (cNil))) (tmName 2)) (sSeq (sAsg (cOp shlD (cC (.int 1)) (cCall lenD (cCons (cVar 2) (cNil)))) (tmName 3)) (sSeq (sIf (cBl (cOp gtD (cCallIO [(0, 0)] g__law_take (cCons (cOwn 0) (cCons (cC (.int 3)) (cNil)))) (cC (.int 0)))) (sSeq (sAsg (cCallIO [(0, 0)] g__law_take (cCons (cOwn 0) (cCons (cOp shlD (cC (.int 1)) (cVar 3)) (cNil)))) (tmName 4)) (sRet (cTup (cCons (cVar 2) (cCons (cCall tupleD (cCons (cComp (cRange rng1D (cCons (cVar 3) (cNil))) (tmName 8) (cYes) (e__law_rule_2) [8]) (cNil))) (cNil)))))) (sSkip)) (sSeq (sAsg (cCallIO [(0, 0)] g__law_take (cCons (cOwn 0) (cCons (cVar 3) (cNil)))) (tmName 5)) (sSeq (sAsg (cCallIO [(0, 0)] g__law_take (cCons (cOwn 0) (cCons (cOp addD (cCall lenD (cCons (cVar 2) (cNil))) (cC (.int 2))) (cNil)))) (tmName 6)) (sSeq (sOwn [0, 7] [0] (cLst (cNil)) 7) (sSeq (sFor [0] (cRange rng1D (cCons (cVar 3) (cNil))) (tmName 8) (b__law_rule_1) [8]) (sRet (cTup (cCons (cVar 2) (cCons (cCall tupleD (cCons (cOwn 7) (cNil))) (cNil)))))))))))
noncomputable def g__law_rule : Fn := fnD 2 10 [0] m__law_rule
/-- slots: 0:box 1:most 2:many 3:k -/
noncomputable def e__law_net_1 : EM := cCallIO [(0, 0)] g__law_rule (cCons (cOwn 0) (cCons (cVar 2) (cNil)))
noncomputable def m__law_net : SM := sSeq (sAsg (cOp addD (cC (.int 1)) (cCallIO [(0, 0)] g__law_take (cCons (cOwn 0) (cCons (cVar 1) (cNil))))) (tmName 2)) (sRet (cCall tupleD (cCons (cComp (cRange rng1D (cCons (cVar 2) (cNil))) (tmName 3) (cYes) (e__law_net_1) [3]) (cNil))))
noncomputable def g__law_net : Fn := fnD 2 4 [0] m__law_net
/-- slots: 0:many 1:found 2:number 3:j -/
noncomputable def e__law_stands_1 : EM := cOp andD (cOp shrD (cVar 2) (cOp subD (cOp subD (cVar 0) (cC (.int 1))) (cVar 3))) (cC (.int 1))
noncomputable def b__law_stands_1 : SM := sAppend 1 (cCall tupleD (cCons (cComp (cRange rng1D (cCons (cVar 0) (cNil))) (tmName 3) (cYes) (e__law_stands_1) [3]) (cNil)))
noncomputable def m__law_stands : SM := sSeq (sOwn [1] [] (cLst (cNil)) 1) (sSeq (sFor [] (cRange rng1D (cCons (cOp shlD (cC (.int 1)) (cVar 0)) (cNil))) (tmName 2) (b__law_stands_1) [2]) (sRet (cOwn 1)))
noncomputable def g__law_stands : List D → R Hd := fnP 1 4 m__law_stands
/-- slots: 0:net 1:stand 2:k 3:ears 4:table 5:place 6:ear -/
noncomputable def b__law_ought_1 : SM := sAsg (cOp addD (cOp mulD (cVar 5) (cC (.int 2))) (cIx (cVar 1) (cVar 6))) (tmName 5)
noncomputable def m__law_ought : SM := sSeq (sAsg (cIx (cVar 0) (cVar 2)) (tmTup [3, 4])) (sSeq (sAsg (cC (.int 0)) (tmName 5)) (sSeq (sFor [] (cIter (cVar 3)) (tmName 6) (b__law_ought_1) [6]) (sRet (cIx (cVar 4) (cVar 5)))))
noncomputable def g__law_ought : List D → R Hd := fnP 3 7 m__law_ought
/-- slots: 0:net 1:stand 2:k -/
noncomputable def t__law_wrong_1 : BM := cBl (cOp neD (cCallF g__law_ought (cCons (cVar 0) (cCons (cVar 1) (cCons (cVar 2) (cNil))))) (cIx (cVar 1) (cVar 2)))
noncomputable def e__law_wrong_1 : EM := cVar 2
noncomputable def m__law_wrong : SM := sRet (cComp (cRange rng1D (cCons (cCall lenD (cCons (cVar 0) (cNil))) (cNil))) (tmName 2) (t__law_wrong_1) (e__law_wrong_1) [2])
noncomputable def g__law_wrong : List D → R Hd := fnP 2 3 m__law_wrong
/-- slots: 0:signs 1:found 2:sign 3:place -/
noncomputable def e_places_in_1 : EM := cOp mulD (cC (.int 2)) (cVar 3)
noncomputable def e_places_in_2 : EM := cOp addD (cOp mulD (cC (.int 2)) (cVar 3)) (cC (.int 1))
noncomputable def e_places_in_3 : EM := cOp addD (cOp mulD (cC (.int 2)) (cVar 3)) (cCall intOfD (cCons (cVar 2) (cNil)))
noncomputable def b_places_in_1 : SM := sIf (cBl (cOp eqD (cVar 2) (cC (.str "-")))) (sAsg (cOp addD (cComp (cIter (cVar 1)) (tmName 3) (cYes) (e_places_in_1) [3]) (cComp (cIter (cVar 1)) (tmName 3) (cYes) (e_places_in_2) [3])) (tmName 1)) (sAsg (cComp (cIter (cVar 1)) (tmName 3) (cYes) (e_places_in_3) [3]) (tmName 1))
noncomputable def m_places_in : SM := sSeq (sAsg (cLst (cCons (cC (.int 0)) (cNil))) (tmName 1)) (sSeq (sFor [] (cIter (cVar 0)) (tmName 2) (b_places_in_1) [2]) (sRet (cVar 1)))
noncomputable def g_places_in : List D → R Hd := fnP 1 4 m_places_in
/-- slots: 0:rule 1:signs 2:place -/
noncomputable def e_bits_for_1 : EM := cIx (cIx (cVar 0) (cC (.int 1))) (cVar 2)
noncomputable def m_bits_for : SM := sRet (cSetSort (cComp (cIter (cCallF g_places_in (cCons (cVar 1) (cNil)))) (tmName 2) (cYes) (e_bits_for_1) [2]))
noncomputable def g_bits_for : List D → R Hd := fnP 2 3 m_bits_for
/-- slots: 0:net 1:frame 2:k 3:ear -/
noncomputable def e_bits_in_1 : EM := cIx (cVar 1) (cVar 3)
noncomputable def m_bits_in : SM := sRet (cCallF g_bits_for (cCons (cIx (cVar 0) (cVar 2)) (cCons (cComp (cIter (cIx (cIx (cVar 0) (cVar 2)) (cC (.int 0)))) (tmName 3) (cYes) (e_bits_in_1) [3]) (cNil))))
noncomputable def g_bits_in : List D → R Hd := fnP 3 4 m_bits_in
/-- slots: 0:frame 1:k 2:sign -/
noncomputable def m_with_sign : SM := sRet (cOp addD (cOp addD (cSlice (cVar 0) (cNoPart) (cPart (cVar 1))) (cVar 2)) (cSlice (cVar 0) (cPart (cOp addD (cVar 1) (cC (.int 1)))) (cNoPart)))
noncomputable def g_with_sign : List D → R Hd := fnP 3 3 m_with_sign
/-- slots: 0:frame 1:k 2:sign -/
noncomputable def m__law_sign : SM := sRet (cOp addD (cOp addD (cSlice (cVar 0) (cNoPart) (cPart (cVar 1))) (cVar 2)) (cSlice (cVar 0) (cPart (cOp addD (cVar 1) (cC (.int 1)))) (cNoPart)))
noncomputable def g__law_sign : List D → R Hd := fnP 3 3 m__law_sign
/-- slots: 0:box 1:many 2:k -/
noncomputable def e__law_drawn_stand_1 : EM := cCallIO [(0, 0)] g__law_take (cCons (cOwn 0) (cCons (cC (.int 2)) (cNil)))
noncomputable def m__law_drawn_stand : SM := sRet (cCall tupleD (cCons (cComp (cRange rng1D (cCons (cVar 1) (cNil))) (tmName 2) (cYes) (e__law_drawn_stand_1) [2]) (cNil)))
noncomputable def g__law_drawn_stand : Fn := fnD 2 3 [0] m__law_drawn_stand
/-- slots: 0:net 1:frame 2:found 3:k 4:bits -/
noncomputable def b_told_alone_1 : SM := sSeq (sAsg (cCallF g_bits_in (cCons (cVar 0) (cCons (cVar 1) (cCons (cVar 3) (cNil))))) (tmName 4)) (sIf (cAndT (cBl (cOp eqD (cIx (cVar 1) (cVar 3)) (cC (.str "-")))) (cBl (cOp eqD (cCall lenD (cCons (cVar 4) (cNil))) (cC (.int 1))))) (sDPutS 2 (cVar 3) (cIx (cVar 4) (cC (.int 0)))) (sSkip))
noncomputable def m_told_alone : SM := sSeq (sDicNew false 2) (sSeq (sFor [] (cRange rng1D (cCons (cCall lenD (cCons (cVar 0) (cNil))) (cNil))) (tmName 3) (b_told_alone_1) [3, 4]) (sRet (cOwn 2)))
noncomputable def g_told_alone : List D → R Hd := fnP 2 5 m_told_alone
/-- slots: 0:stand 1:bit -/
noncomputable def e__law_text_1 : EM := cCall strOfD (cCons (cVar 1) (cNil))
noncomputable def m__law_text : SM := sRet (cJoin (cC (.str "")) (cComp (cIter (cVar 0)) (tmName 1) (cYes) (e__law_text_1) [1]))
noncomputable def g__law_text : List D → R Hd := fnP 1 2 m__law_text
/-- slots: 0:net 1:thing 2:last 3:one -/
noncomputable def b_are_holds_1 : SM := sSeq (sIf (cOrT (cNotT (cTru (cIsi isTup (cVar 3)))) (cOrT (cBl (cOp neD (cCall lenD (cCons (cVar 3) (cNil))) (cC (.int 2)))) (cOrT (cNotT (cTru (cCallF g_is_upto (cCons (cIx (cVar 3) (cC (.int 0))) (cCons (cCall lenD (cCons (cVar 0) (cNil))) (cNil)))))) (cNotT (cTru (cCallF g_is_upto (cCons (cIx (cVar 3) (cC (.int 1))) (cCons (cC (.int 2)) (cNil))))))))) (sRet (cC (.bl false))) (sSkip)) (sSeq (sIf (cBl (cOp leD (cIx (cVar 3) (cC (.int 0))) (cVar 2))) (sRet (cC (.bl false))) (sSkip)) (sAsg (cIx (cVar 3) (cC (.int 0))) (tmName 2)))
noncomputable def m_are_holds : SM := sSeq (sIf (cNotT (cTru (cIsi isTup (cVar 1)))) (sRet (cC (.bl false))) (sSkip)) (sSeq (sAsg (cNeg (cC (.int 1))) (tmName 2)) (sSeq (sFor [] (cIter (cVar 1)) (tmName 3) (b_are_holds_1) [3]) (sRet (cC (.bl true)))))
noncomputable def g_are_holds : List D → R Hd := fnP 2 4 m_are_holds
/-- slots: 0:net 1:thing -/
noncomputable def m_look_at_holds : SM := sIf (cNotT (cTru (cCallF g_are_holds (cCons (cVar 0) (cCons (cVar 1) (cNil)))))) (sRaise "NoHolds") (sSkip)
noncomputable def g_look_at_holds : List D → R Hd := fnP 2 2 m_look_at_holds
/-- slots: 0:net 1:holds 2:rules 3:k 4:bit -/
noncomputable def b_held_net_1 : SM := sSetIx 2 (cVar 3) (cTup (cCons (cTup (cNil)) (cCons (cTup (cCons (cVar 4) (cNil))) (cNil))))
noncomputable def m_held_net : SM := sSeq (sExpr (cCallF g_look_at_holds (cCons (cVar 0) (cCons (cVar 1) (cNil))))) (sSeq (sOwn [2] [] (cCall listD (cCons (cVar 0) (cNil))) 2) (sSeq (sFor [] (cIter (cVar 1)) (tmTup [3, 4]) (b_held_net_1) [3, 4]) (sRet (cCall tupleD (cCons (cOwn 2) (cNil))))))
noncomputable def g_held_net : List D → R Hd := fnP 2 5 m_held_net
/-- slots: 0:net 1:holds 2:bits 3:found 4:k 5:rule -/
noncomputable def b__law_held_1 : SM := sSeq (sIf (cBl (cDIn false (cVar 4) (cVar 2))) (sAsg (cTup (cCons (cTup (cNil)) (cCons (cTup (cCons (cDGet (cVar 2) (cVar 4)) (cNil))) (cNil)))) (tmName 5)) (sSkip)) (sAppend 3 (cVar 5))
noncomputable def m__law_held : SM := sSeq (sAsg (cCall dictFD (cCons (cVar 1) (cNil))) (tmName 2)) (sSeq (sOwn [3] [] (cLst (cNil)) 3) (sSeq (sFor [] (cEnumG (cCons (cVar 0) (cNil))) (tmTup [4, 5]) (b__law_held_1) [4, 5]) (sRet (cCall tupleD (cCons (cOwn 3) (cNil))))))
noncomputable def g__law_held : List D → R Hd := fnP 2 6 m__law_held
/-- slots: 0:net 1:holds 2:frame 3:k 4:bit -/
noncomputable def b_frame_of_1 : SM := sAsg (cCallF g_with_sign (cCons (cVar 2) (cCons (cVar 3) (cCons (cCall strOfD (cCons (cVar 4) (cNil))) (cNil))))) (tmName 2)
noncomputable def m_frame_of : SM := sSeq (sAsg (cOp mulD (cC (.str "-")) (cCall lenD (cCons (cVar 0) (cNil)))) (tmName 2)) (sSeq (sFor [] (cIter (cVar 1)) (tmTup [3, 4]) (b_frame_of_1) [3, 4]) (sRet (cVar 2)))
noncomputable def g_frame_of : List D → R Hd := fnP 2 5 m_frame_of
/-- slots: 0:signs 1:found 2:sign 3:bits 4:longer 5:place 6:bit -/
noncomputable def e__law_places_2_1 : EM := cOp addD (cOp mulD (cC (.int 2)) (cVar 5)) (cVar 6)
noncomputable def b__law_places_2_1 : SM := sExt 4 (cComp (cIter (cVar 3)) (tmName 6) (cYes) (e__law_places_2_1) [6])
noncomputable def b__law_places_2_2 : SM := sSeq (sAsg (cIx (cLst (cCons (cLst (cCons (cC (.int 0)) (cNil))) (cCons (cLst (cCons (cC (.int 1)) (cNil))) (cCons (cLst (cCons (cC (.int 0)) (cCons (cC (.int 1)) (cNil)))) (cNil))))) (cIndex (cC (.str "01-")) (cVar 2))) (tmName 3)) (sBuild 4 1 (sFor [] (cIter (cVar 1)) (tmName 5) (b__law_places_2_1) [5]))
noncomputable def m__law_places_2 : SM := sSeq (sAsg (cLst (cCons (cC (.int 0)) (cNil))) (tmName 1)) (sSeq (sFor [] (cIter (cVar 0)) (tmName 2) (b__law_places_2_2) [2, 3, 4, 5]) (sRet (cVar 1)))
noncomputable def g__law_places_2 : List D → R Hd := fnP 1 7 m__law_places_2
/-- slots: 0:net 1:holds 2:other 3:frame 4:layers 5:found 6:k 7:bit -/
noncomputable def e_poured_1 : EM := cVar 6
noncomputable def b_poured_1 : SM := sAsg (cCallF g_with_sign (cCons (cVar 3) (cCons (cVar 6) (cCons (cCall strOfD (cCons (cVar 7) (cNil))) (cNil))))) (tmName 3)
noncomputable def b_poured_2 : SM := sSeq (sForD (sFor [] (cItems 5) (tmTup [6, 7]) (b_poured_1) [6, 7])) (sSeq (sAppend 4 (cCall sortDD (cCons (cVar 5) (cNil)))) (sAsg (cCallF g_told_alone (cCons (cVar 2) (cCons (cVar 3) (cNil)))) (tmName 5)))
noncomputable def m_poured : SM := sSeq (sAsg (cCallF g_held_net (cCons (cVar 0) (cCons (cVar 1) (cNil)))) (tmName 2)) (sSeq (sAsg (cCallF g_frame_of (cCons (cVar 0) (cCons (cVar 1) (cNil)))) (tmName 3)) (sGrowL 4 (cCons (cComp (cIter (cVar 1)) (tmTup [6, 7]) (cYes) (e_poured_1) [6, 7]) (cNil)) (sAsg (cCallF g_told_alone (cCons (cVar 2) (cCons (cVar 3) (cNil)))) (tmName 5)) (sWhile (cBl (cOp neZ (cVar 5) (cDic0))) (b_poured_2) [6, 7]) (sRet (cTup (cCons (cVar 3) (cCons (cVar 4) (cNil)))))))
noncomputable def g_poured : List D → R Hd := fnP 2 8 m_poured
/-- slots: 0:net 1:frame 2:k 3:ears 4:table 5:place 6:ear -/
noncomputable def e__law_bits_3_1 : EM := cIx (cVar 1) (cVar 6)
noncomputable def e__law_bits_3_2 : EM := cIx (cVar 4) (cVar 5)
noncomputable def m__law_bits_3 : SM := sSeq (sAsg (cIx (cVar 0) (cVar 2)) (tmTup [3, 4])) (sRet (cSetSort (cComp (cIter (cCallF g__law_places_2 (cCons (cComp (cIter (cVar 3)) (tmName 6) (cYes) (e__law_bits_3_1) [6]) (cNil)))) (tmName 5) (cYes) (e__law_bits_3_2) [5])))
noncomputable def g__law_bits_3 : List D → R Hd := fnP 3 7 m__law_bits_3
/-- slots: 0:net 1:holds 2:other 3:frame 4:k 5:bit 6:layers 7:later 8:bits -/
noncomputable def b__law_poured_2_1 : SM := sAsg (cCallF g__law_sign (cCons (cVar 3) (cCons (cVar 4) (cCons (cCall strOfD (cCons (cVar 5) (cNil))) (cNil))))) (tmName 3)
noncomputable def e__law_poured_2_1 : EM := cVar 4
noncomputable def b__law_poured_2_2 : SM := sSeq (sAsg (cCallF g__law_bits_3 (cCons (cVar 2) (cCons (cVar 3) (cCons (cVar 4) (cNil))))) (tmName 8)) (sIf (cAndT (cBl (cOp eqD (cIx (cVar 3) (cVar 4)) (cC (.str "-")))) (cBl (cOp eqD (cCall lenD (cCons (cVar 8) (cNil))) (cC (.int 1))))) (sAsg (cCallF g__law_sign (cCons (cVar 7) (cCons (cVar 4) (cCons (cCall strOfD (cCons (cIx (cVar 8) (cC (.int 0))) (cNil))) (cNil))))) (tmName 7)) (sSkip))
noncomputable def t__law_poured_2_2 : BM := cBl (cOp neD (cIx (cVar 3) (cVar 4)) (cIx (cVar 7) (cVar 4)))
noncomputable def e__law_poured_2_2 : EM := cVar 4
noncomputable def b__law_poured_2_3 : SM := sSeq (sAsg (cVar 3) (tmName 7)) (sSeq (sFor [] (cRange rng1D (cCons (cCall lenD (cCons (cVar 0) (cNil))) (cNil))) (tmName 4) (b__law_poured_2_2) [8]) (sSeq (sIf (cBl (cOp eqD (cVar 7) (cVar 3))) (sRetO 6 (cCons (cVar 3) (cCons (cOwn 6) (cNil)))) (sSkip)) (sSeq (sAppend 6 (cComp (cRange rng1D (cCons (cCall lenD (cCons (cVar 0) (cNil))) (cNil))) (tmName 4) (t__law_poured_2_2) (e__law_poured_2_2) [4])) (sAsg (cVar 7) (tmName 3)))))
noncomputable def m__law_poured_2 : SM := sSeq (sAsg (cCallF g__law_held (cCons (cVar 0) (cCons (cVar 1) (cNil)))) (tmName 2)) (sSeq (sAsg (cOp mulD (cC (.str "-")) (cCall lenD (cCons (cVar 0) (cNil)))) (tmName 3)) (sSeq (sFor [] (cIter (cVar 1)) (tmTup [4, 5]) (b__law_poured_2_1) [5]) (sSeq (sOwn [6] [] (cLst (cCons (cComp (cIter (cVar 1)) (tmTup [4, 5]) (cYes) (e__law_poured_2_1) [4, 5]) (cNil))) 6) (sWhile (cTru (cC (.bl true))) (b__law_poured_2_3) [7, 8]))))
noncomputable def g__law_poured_2 : List D → R Hd := fnP 2 9 m__law_poured_2
/-- slots: 0:stand 1:%t 2:found 3:pair 4:holds -/
noncomputable def e_choices_1 (TP : Addr) : EM := cOp addD (cVar 4) (cTup (cCons (cVar 3) (cNil)))
noncomputable def b_choices_1 (TP : Addr) : SM := sAsg (cOp addD (cVar 2) (cComp (cIter (cVar 2)) (tmName 4) (cYes) ((e_choices_1 TP)) [4])) (tmName 2)
noncomputable def m_choices (TP : Addr) : SM := sSeq (sAsg (cLst (cCons (cTup (cNil)) (cNil))) (tmName 2)) (sSeq (sFor [1] (cEnumG (cCons (cVar 0) (cNil))) (tmName 3) ((b_choices_1 TP)) [3]) (sRet (cSortL 1 TP "choices.<locals>.<lambda>" (cVar 2))))
noncomputable def g_choices : Addr → Fn := fun TP => fnD 2 5 [1] (m_choices TP)
/-- slots: 0:stand 1:found 2:k 3:bit 4:holds -/
noncomputable def e__law_all_holds_1 : EM := cOp addGD (cVar 4) (cFTup (cCons (cTup (cCons (cVar 2) (cCons (cVar 3) (cNil)))) (cNil)))
noncomputable def b__law_all_holds_1 : SM := sAsg (cOp addD (cVar 1) (cComp (cIter (cVar 1)) (tmName 4) (cYes) (e__law_all_holds_1) [4])) (tmName 1)
noncomputable def m__law_all_holds : SM := sSeq (sAsg (cLst (cCons (cFTup cNil) (cNil))) (tmName 1)) (sSeq (sFor [] (cEnumG (cCons (cVar 0) (cNil))) (tmTup [2, 3]) (b__law_all_holds_1) [2, 3]) (sRet (cSortN (cVar 1))))
noncomputable def g__law_all_holds : List D → R Hd := fnP 1 5 m__law_all_holds
/-- slots: 0:net 1:stand 2:%t 3:due 4:holds 5:bit -/
noncomputable def e_fewest_poured_1 (TP : Addr) : EM := cCall strOfD (cCons (cVar 5) (cNil))
noncomputable def b_fewest_poured_1 (TP : Addr) : SM := sIf (cBl (cOp eqD (cIx (cCallF g_poured (cCons (cVar 0) (cCons (cVar 4) (cNil)))) (cC (.int 0))) (cVar 3))) (sRet (cVar 4)) (sSkip)
noncomputable def m_fewest_poured (TP : Addr) : SM := sSeq (sExpr (cCallF g_look_at_stand (cCons (cVar 0) (cCons (cVar 1) (cNil))))) (sSeq (sAsg (cJoin (cC (.str "")) (cComp (cIter (cVar 1)) (tmName 5) (cYes) ((e_fewest_poured_1 TP)) [5])) (tmName 3)) (sSeq (sFor [2] (cIter (cCallIO [(1, 2)] (g_choices TP) (addT 2 (cCons (cVar 1) (cNil))))) (tmName 4) ((b_fewest_poured_1 TP)) [4]) (sRet (cC .non))))
noncomputable def g_fewest_poured : Addr → Fn := fun TP => fnD 3 6 [2] (m_fewest_poured TP)
noncomputable def e_fewest_poured_n_1 : EM := cCall strOfD (cCons (cVar 5) (cNil))
noncomputable def m_fewest_poured_n : SM := sSeq (sExpr (cCallF g_look_at_stand (cCons (cVar 0) (cCons (cVar 1) (cNil))))) (sSeq (sAsg (cJoin (cC (.str "")) (cComp (cIter (cVar 1)) (tmName 5) (cYes) (e_fewest_poured_n_1) [5])) (tmName 3)) (sSeq (sStk) (sRet (cC .non))))
noncomputable def g_fewest_poured_n : List D → R Hd := fnP 2 6 m_fewest_poured_n
/-- slots: 0:net 1:thing 2:%t 3:found 4:e -/
noncomputable def w__law_refused_2_1 (TP : Addr) : TM := tbExpr (cXcallT g_fewest_poured_n [(2, 2)] (g_fewest_poured TP) 2 (cCons (cVar 0) (cCons (cVar 1) (cNil))))
noncomputable def h__law_refused_2_1 (TP : Addr) : Str → SM := fun cn => sAsg (cC (.bl (isErr "NoStand" cn))) (tmName 3)
noncomputable def m__law_refused_2 (TP : Addr) : SM := sSeq (sAsg (cC (.bl false)) (tmName 3)) (sSeq (sTry 4 ["NoHolds", "NoStand"] (w__law_refused_2_1 TP) (h__law_refused_2_1 TP)) (sRet (cVar 3)))
noncomputable def g__law_refused_2 : Addr → Fn := fun TP => fnD 3 5 [2] (m__law_refused_2 TP)
/-- slots: 0:script 1:%t 2:k 3:box 4:net 5:stand 6:other 7:good 8:due 9:found 10:holds -/
noncomputable def b_law_k75_1 (TP : Addr) : SM := sIf (cAndT (cBl (cOp eqD (cCallF g__law_wrong (cCons (cVar 4) (cCons (cVar 6) (cNil)))) (cLst (cNil)))) (cBl (cOp eqD (cCallIO [(0, 3)] g__law_take (cCons (cOwn 3) (cCons (cC (.int 2)) (cNil)))) (cC (.int 1))))) (sAsg (cVar 6) (tmName 5)) (sSkip)
noncomputable def t_law_k75_1 (TP : Addr) : BM := cBl (cOp eqD (cIx (cCallF g__law_poured_2 (cCons (cVar 4) (cCons (cVar 10) (cNil)))) (cC (.int 0))) (cCallF g__law_text (cCons (cVar 5) (cNil))))
noncomputable def e_law_k75_1 (TP : Addr) : EM := cVar 10
noncomputable def t_law_k75_2 (TP : Addr) : BM := cBl (cOp eqD (cCall lenD (cCons (cVar 10) (cNil))) (cCall lenD (cCons (cIx (cVar 7) (cC (.int 0))) (cNil))))
noncomputable def e_law_k75_2 (TP : Addr) : EM := cVar 10
noncomputable def b_law_k75_2 (TP : Addr) : SM := sSeq (sOwn [1, 3] [1, 3] (cCallF g__law_box (cCons (cVar 0) (cCons (cVar 2) (cNil)))) 3) (sSeq (sAsg (cCallIO [(0, 3)] g__law_net (cCons (cOwn 3) (cCons (cC (.int 5)) (cNil)))) (tmName 4)) (sSeq (sAsg (cCallIO [(0, 3)] g__law_drawn_stand (cCons (cOwn 3) (cCons (cCall lenD (cCons (cVar 4) (cNil))) (cNil)))) (tmName 5)) (sSeq (sFor [1] (cIter (cCallF g__law_stands (cCons (cCall lenD (cCons (cVar 4) (cNil))) (cNil)))) (tmName 6) ((b_law_k75_1 TP)) [6]) (sSeq (sAsg (cComp (cIter (cCallF g__law_all_holds (cCons (cVar 5) (cNil)))) (tmName 10) ((t_law_k75_1 TP)) ((e_law_k75_1 TP)) [10]) (tmName 7)) (sSeq (sAsg (cCall minHD (cCons (cComp (cIter (cVar 7)) (tmName 10) ((t_law_k75_2 TP)) ((e_law_k75_2 TP)) [10]) (cNil))) (tmName 8)) (sSeq (sAsg (cCallIO [(2, 1)] (g_fewest_poured TP) (addT 1 (cCons (cVar 4) (cCons (cVar 5) (cNil))))) (tmName 9)) (sSeq (sIf (cOrT (cBl (cOp neD (cVar 9) (cVar 8))) (cOrT (cNotT (cTru (cIsi isTup (cVar 9)))) (cBl (cOp neD (cCallIO [(2, 1)] (g_fewest_poured TP) (addT 1 (cCons (cVar 4) (cCons (cVar 5) (cNil))))) (cVar 8))))) (sRet (cC (.bl false))) (sSkip)) (sIf (cOrT (cNotT (cTru (cCallIO [(2, 1)] (g__law_refused_2 TP) (addT 1 (cCons (cVar 4) (cCons (cOp addD (cVar 5) (cTup (cCons (cC (.int 0)) (cNil)))) (cNil))))))) (cOrT (cNotT (cTru (cCallIO [(2, 1)] (g__law_refused_2 TP) (addT 1 (cCons (cVar 4) (cCons (cCall listD (cCons (cVar 5) (cNil))) (cNil))))))) (cNotT (cTru (cCallIO [(2, 1)] (g__law_refused_2 TP) (addT 1 (cCons (cVar 4) (cCons (cC .non) (cNil))))))))) (sRet (cC (.bl false))) (sSkip)))))))))
noncomputable def m_law_k75 (TP : Addr) : SM := sSeq (sFor [1] (cRange rng1D (cCons (cCall max2D (cCons (cC (.int 1)) (cCons (cCall min2D (cCons (cCall lenD (cCons (cVar 0) (cNil))) (cCons (cC (.int 2)) (cNil)))) (cNil)))) (cNil))) (tmName 2) ((b_law_k75_2 TP)) [2, 3, 4, 5, 6, 7, 8, 9]) (sRet (cC (.bl true)))
noncomputable def g_law_k75 : Addr → Fn := fun TP => fnD 2 11 [1] (m_law_k75 TP)
end C

set_option Elab.async false
set_option linter.all false
set_option maxRecDepth 100000
namespace H
open PySem PySem.Spec PyProof.Rows L2 Y
abbrev ti (xs : List Int) : D := .tup (xs.map D.int)
abbrev dRule (r : List Int × List Int) : D := .tup [ti r.1, ti r.2]
abbrev dNet (ns : List (List Int × List Int)) : D := .tup (ns.map dRule)
@[simp] theorem is_whole_int {i : Int} : C.g_is_whole [.int i] = .ok (.fr (.bl true)) := by
  simp [C.g_is_whole, C.m_is_whole, e_fnP, noDit, Y.isInt, Y.isBl]
@[simp] theorem is_upto_int {i m : Int} : C.g_is_upto [.int i, .int m] = .ok (.fr (.bl (decide (0 ≤ i ∧ i < m)))) := by
  simp [C.g_is_upto, C.m_is_upto, e_fnP, is_whole_int]
  by_cases h : 0 ≤ i <;> simp [h]
def placeI (xs : List Int) : Int := xs.foldl (fun p b => 2 * p + b) 0
end H

set_option Elab.async false
set_option linter.all false
set_option maxRecDepth 100000
namespace H
open PySem PySem.Spec PyProof.Rows L2 Y
theorem atI_nat' {α : Type} {xs : List α} {k : Nat} (h : k < xs.length) : atI xs (k : Int) = some xs[k] := atI_of (j := k) rfl (List.getElem?_eq_getElem h)
theorem atI_map {α β : Type} {f : α → β} {xs : List α} {i : Int} : atI (xs.map f) i = (atI xs i).map f := by
  unfold atI
  rw [List.length_map]
  cases ixN xs.length i with
  | none => rfl
  | some j => simp
theorem atI_int {xs : List Int} {i : Int} (h0 : 0 ≤ i) (h : i < xs.length) : atI xs i = some (xs.getD i.toNat 0) := by
  rw [atI_lt h0 h, List.getD_eq_getElem?_getD, List.getElem?_eq_getElem (by omega)]
  rfl
theorem atI_mapI {xs : List Int} {i : Int} (h0 : 0 ≤ i) (h : i < xs.length) : atI (xs.map D.int) i = some (.int (xs.getD i.toNat 0)) := by rw [atI_map, atI_int h0 h]; rfl
theorem place_go : ∀ {xs : List Int} {p : Int}, 0 ≤ p → (∀ x ∈ xs, 0 ≤ x ∧ x < 2) → 0 ≤ xs.foldl (fun p b => 2 * p + b) p ∧ xs.foldl (fun p b => 2 * p + b) p < (p + 1) * 2 ^ xs.length
  | [], p, hp, _ => by simp; omega
  | x :: xs, p, hp, h => by
    have hx := h x (by simp)
    have ih := place_go (xs := xs) (p := 2 * p + x) (by omega) fun y hy => h y (by simp [hy])
    rw [List.foldl_cons, List.length_cons, Int.pow_succ]
    refine ⟨ih.1, Int.lt_of_lt_of_le ih.2 ?_⟩
    have e : (p + 1) * (2 ^ xs.length * 2) = (2 * p + 2) * 2 ^ xs.length := by
      rw [Int.mul_comm (2 ^ xs.length) 2, ← Int.mul_assoc]
      congr 1
      omega
    rw [e]
    exact Int.mul_le_mul_of_nonneg_right (by omega) (Int.pow_nonneg (by omega))
theorem placeI_lt {xs : List Int} (h : ∀ x ∈ xs, 0 ≤ x ∧ x < 2) : 0 ≤ placeI xs ∧ placeI xs < 2 ^ xs.length := by
  have := place_go (xs := xs) (p := 0) (by omega) h
  simpa [placeI] using this
abbrev RuleT := List Int × List Int
structure GoodNet (ns : List RuleT) : Prop where
  sz : ns.length ≤ 100
  ear : ∀ r ∈ ns, r.1.length ≤ 100 ∧ (∀ e ∈ r.1, 0 ≤ e ∧ e < ns.length) ∧ r.2.length = 2 ^ r.1.length
structure IsSt (m : Nat) (st : List Int) : Prop where
  len : st.length = m
  bit : ∀ x ∈ st, 0 ≤ x ∧ x < 2
def tellI (r : RuleT) (st : List Int) : Int := r.2.getD (placeI (r.1.map fun e => st.getD e.toNat 0)).toNat 0
def oughtI (ns : List RuleT) (st : List Int) (k : Nat) : Int := tellI (ns.getD k ([], [])) st
theorem getD_bit {st : List Int} (h : ∀ x ∈ st, 0 ≤ x ∧ x < 2) (k : Nat) : 0 ≤ st.getD k 0 ∧ st.getD k 0 < 2 := by
  rw [List.getD_eq_getElem?_getD]
  cases e : st[k]? with
  | none => simp
  | some x => exact h x (List.mem_of_getElem? e)
theorem IsSt.get {m : Nat} {st : List Int} (h : IsSt m st) (k : Nat) : 0 ≤ st.getD k 0 ∧ st.getD k 0 < 2 := getD_bit h.bit k
theorem read_lt {m : Nat} {st : List Int} (h : IsSt m st) (es : List Int) : 0 ≤ placeI (es.map fun e => st.getD e.toNat 0) ∧ placeI (es.map fun e => st.getD e.toNat 0) < 2 ^ es.length := by
  have := placeI_lt (xs := es.map fun e => st.getD e.toNat 0) fun x hx => by
    obtain ⟨e, _, rfl⟩ := List.mem_map.mp hx
    exact h.get _
  rwa [List.length_map] at this
theorem net_at {ns : List RuleT} {k : Nat} (h : k < ns.length) : atI (ns.map dRule) (k : Int) = some (dRule (ns.getD k ([], []))) := by
  rw [atI_map, atI_nat' h, List.getD_eq_getElem?_getD, List.getElem?_eq_getElem h]
  rfl
theorem GoodNet.at {ns : List RuleT} (g : GoodNet ns) {k : Nat} (h : k < ns.length) : (ns.getD k ([], [])).1.length ≤ 100 ∧ (∀ e ∈ (ns.getD k ([], [])).1, 0 ≤ e ∧ e < ns.length) ∧ (ns.getD k ([], [])).2.length = 2 ^ (ns.getD k ([], [])).1.length := by
  rw [List.getD_eq_getElem?_getD, List.getElem?_eq_getElem h]
  exact g.ear _ (List.getElem_mem h)
/-- the switches that are not as their rules tell -/
def wrongI (ns : List RuleT) (st : List Int) : List Nat := (List.range ns.length).filter fun k => !decide (oughtI ns st k = st.getD k 0)
abbrev ln' (xs : List Nat) : D := .lst (xs.map fun k => D.int (k : Nat))
def stands : Nat → List (List Int)
  | 0 => [[]]
  | m + 1 => (stands m).map (0 :: ·) ++ (stands m).map (1 :: ·)
theorem stands_len : ∀ m, (stands m).length = 2 ^ m
  | 0 => rfl
  | m + 1 => by simp [stands, stands_len m, Nat.pow_succ]; omega
theorem stands_st : ∀ {m : Nat} {st : List Int}, st ∈ stands m → IsSt m st
  | 0, st, h => by simp [stands] at h; subst h; exact ⟨rfl, by simp⟩
  | m + 1, st, h => by
    simp only [stands, List.mem_append, List.mem_map] at h
    rcases h with ⟨s, h, rfl⟩ | ⟨s, h, rfl⟩
    · exact ⟨by simp [(stands_st h).len], by simpa using (stands_st h).bit⟩
    · exact ⟨by simp [(stands_st h).len], by simpa using (stands_st h).bit⟩
abbrev lti (xs : List (List Int)) : D := .lst (xs.map ti)
theorem fit_ln {n : Nat} {xs : List Nat} : Fit (n + 1) (ln' xs) := fun d h => by
  obtain ⟨x, _, rfl⟩ := List.mem_map.mp h
  exact fit_int
theorem fit_nil {n : Nat} : Fit (n + 1) (.lst []) := by
  unfold Fit
  intro d h
  cases h
theorem eqPs_nil {xs : List D} : eqPs xs [] = xs.isEmpty := by cases xs <;> rfl
end H

set_option Elab.async false
set_option linter.all false
set_option maxRecDepth 100000
set_option exponentiation.threshold 300
namespace H
open PySem PySem.Spec PyProof.Rows L2 Y
def cellI (ns : List Int) (k : Nat) : Int := if k < ns.length then ns.getD k 0 else 6151 * k + 29
def isOk (r : R Hd) (d : D) : Prop := r = .ok (.fr d) ∨ r = .ok (.vl d)
theorem cell_ok {ns : List Int} {k : Nat} : isOk (C.g__law_cell [.arg ns, .int k]) (.int (cellI ns k)) := by
  unfold cellI
  by_cases h : k < ns.length
  · right
    have a := atI_int (xs := ns) (i := k) (by omega) (by omega)
    simp only [Int.toNat_natCast] at a
    simp [C.g__law_cell, C.m__law_cell, e_fnP, h, a, -List.getD_eq_getElem?_getD]
  · left
    simp [C.g__law_cell, C.m__law_cell, e_fnP, h, mulOk_l]
/-- numbers that the machine bears as factors -/
def Big (n : Nat) (z : Int) : Prop := z.natAbs < 2 ^ n
theorem Big.mul {a b : Int} {n m : Nat} (h : Big n a) (h2 : Big m b) (hn : n < 67108000) (hm : m < 67108000) : mulOk a b = true := by
  have l : ∀ {z : Int} {n : Nat}, Big n z → n < 67108000 → z.natAbs.log2 < 67108856 := fun {z n} h hn => by
    by_cases e : z.natAbs = 0
    · rw [e]; simp
    · exact Nat.lt_of_lt_of_le ((Nat.log2_lt e).mpr h) (by omega)
  have e : (2 : Nat) ^ 26 - 8 = 67108856 := by decide
  unfold mulOk
  rw [e, decide_eq_true (p := a.natAbs.log2 < 67108856 ∧ b.natAbs.log2 < 67108856) ⟨l h hn, l h2 hm⟩]
  simp
theorem Big.add {a b : Int} {n : Nat} (h : Big n a) (h2 : Big n b) : Big (n + 1) (a + b) := by
  unfold Big at *
  rw [Nat.pow_succ]
  have := Int.natAbs_add_le a b
  omega
theorem Big.times {a b : Int} {n m : Nat} (h : Big n a) (h2 : Big m b) : Big (n + m) (a * b) := by
  unfold Big at *
  rw [Int.natAbs_mul, Nat.pow_add]
  exact Nat.mul_lt_mul'' h h2
theorem Big.up {a : Int} {n m : Nat} (h : Big n a) (hm : n ≤ m) : Big m a := Nat.lt_of_lt_of_le h (Nat.pow_le_pow_right (by omega) hm)
theorem big64 {a : Int} (h : a.natAbs < 18446744073709551616) : Big 64 a := h
/-- a script's numbers are not too great -/
theorem bits_big {z : Int} (h : Builtin.Int.intBits z ≤ 1048576) : Big 1048576 z := by
  unfold Builtin.Int.intBits at h
  unfold Big
  split at h
  · rename_i e
    have : z.natAbs = 0 := by simpa using e
    rw [this]
    exact Nat.pow_pos (by omega)
  · have := Nat.lt_log2_self (n := z.natAbs)
    exact Nat.lt_of_lt_of_le this (Nat.pow_le_pow_right (by omega) h)
theorem cell_big {ns : List Int} {k : Nat} (hb : ∀ z ∈ ns, Builtin.Int.intBits z ≤ 1048576) (hk : k < 1000000) : Big 1048576 (cellI ns k) := by
  unfold cellI
  split
  · rename_i h
    rw [List.getD_eq_getElem?_getD, List.getElem?_eq_getElem h]
    exact bits_big (hb _ (List.getElem_mem h))
  · exact (big64 (by omega)).up (by omega)
def mixI (c k : Int) : Int :=
  let n := (c + 1) * 40692 + 104729 * k
  let m := n * n % 2147483399 + k
  m * (m + 31) % 2147483563
theorem mix_ok {c : Int} {k : Nat} (hc : Big 1048576 c) (hk : k < 1000000) : C.g__law_mix [.int c, .int k] = .ok (.fr (.int (mixI c k))) := by
  have b1 : Big 1048700 ((c + 1) * 40692 + 104729 * k) := by
    have h1 : Big 1048577 (c + 1) := Big.add hc ((big64 (a := 1) (by omega)).up (by omega))
    have h2 : Big (1048577 + 64) ((c + 1) * 40692) := h1.times (big64 (by omega))
    have h3 : Big 64 (104729 * (k : Int)) := big64 (by omega)
    exact (h2.add (h3.up (by omega))).up (by omega)
  have b2 := Big.mul b1 b1 (by omega) (by omega)
  have p : 0 ≤ ((c + 1) * 40692 + 104729 * (k : Int)) * ((c + 1) * 40692 + 104729 * k) % 2147483399 ∧ ((c + 1) * 40692 + 104729 * (k : Int)) * ((c + 1) * 40692 + 104729 * k) % 2147483399 < 2147483399 := ⟨Int.emod_nonneg _ (by omega), Int.emod_lt_of_pos _ (by omega)⟩
  have b3 : mulOk (((c + 1) * 40692 + 104729 * (k : Int)) * ((c + 1) * 40692 + 104729 * k) % 2147483399 + k) (((c + 1) * 40692 + 104729 * (k : Int)) * ((c + 1) * 40692 + 104729 * k) % 2147483399 + k + 31) = true := mulOk_l (by omega)
  have b4 : mulOk (c + 1) 40692 = true := mulOk_r (by decide)
  have b5 : mulOk 104729 k = true := mulOk_l (by decide)
  simp [C.g__law_mix, C.m__law_mix, e_fnP, b2, b3, b4, b5, mixI]
def boxN (c : Int) (j : Nat) : Int := (List.range j).foldl (fun p j => p * 2147483647 + mixI c (j : Nat)) 0
theorem boxN_succ {c : Int} {j : Nat} : boxN c (j + 1) = boxN c j * 2147483647 + mixI c j := by
  unfold boxN
  rw [List.range_succ, List.foldl_append]
  rfl
theorem box_ok {ns : List Int} {k : Nat} (hb : ∀ z ∈ ns, Builtin.Int.intBits z ≤ 1048576) (hk : k < 1000) : ∃ b : Int, C.g__law_box [.arg ns, .int k] = .ok (.fr (.lst [.int b])) := by
  have hc := cell_big (ns := ns) (k := k) hb (by omega)
  have h : forL (tmName 4) C.b__law_box_1 [4] [] ((List.range 24).map fun j : Nat => D.int (j : Nat)) [some (.arg ns), some (.int k), some (.int (cellI ns k)), some (.int 0), none] = .ok (.nx, [some (.arg ns), some (.int k), some (.int (cellI ns k)), some (.int (boxN (cellI ns k) 24)), none]) :=
    for_rng (fun j : Nat => D.int (j : Nat)) (fun j => [some (.arg ns), some (.int k), some (.int (cellI ns k)), some (.int (boxN (cellI ns k) j)), none]) (fun j hj => by
      refine ⟨by simp, ?_⟩
      have m := mix_ok (k := j) hc (by omega)
      have b : ∀ p : Int, mulOk p 2147483647 = true := fun p => mulOk_r (by decide)
      simp only [turnF, C.b__law_box_1]
      simp [m, b, boxN_succ])
  have hr : rngOk 24 = true := by decide
  have hz : szOk 24 = true := by decide
  have r24 : rng1D [.int 24] = .ok ((List.range 24).map fun j : Nat => D.int (j : Nat)) := by rw [d_rng1, if_pos hr]; rfl
  have z24 : szOk ((List.range 24).map fun j : Nat => D.int (j : Nat)).length = true := by simp [hz]
  by_cases e : cellI ns k % 2 = 0
  · refine ⟨cellI ns k / 2, ?_⟩
    rcases cell_ok (ns := ns) (k := k) with c | c <;> simp [C.g__law_box, C.m__law_box, e_fnP, c, e, smallPos_of]
  · refine ⟨boxN (cellI ns k) 24, ?_⟩
    rcases cell_ok (ns := ns) (k := k) with c | c <;> simp only [C.g__law_box, C.m__law_box] <;> generalize C.b__law_box_1 = B at h ⊢ <;> generalize (List.range 24).map (fun j : Nat => D.int (j : Nat)) = L24 at h r24 z24 <;> simp [e_fnP, c, e, r24, z24, h, -d_rng1]
theorem take_ok {n m : Int} (h0 : 0 < m) (h1 : m < 1073741824) : C.g__law_take [.lst [.int n], .int m] = .ok (.vl (.int (n % m)), [some (.lst [.int (n / m)]), none]) := by
  have a : atI [D.int n] 0 = some (.int n) := rfl
  have b : ixN 1 0 = some 0 := rfl
  simp [C.g__law_take, C.m__law_take, e_fnD, smallPos_of h0 h1, a, b]
theorem shl1 {k : Nat} (h : k ≤ 1000000) : shlD (.int 1) (.int (k : Nat)) = .ok (.int ((2 ^ k : Nat) : Int)) := by
  rw [d_shl, if_pos (shOk_of (by omega) (by omega) (by decide))]
  simp
theorem cut_hi {ds : List D} {k : Nat} : Y.cutD ds none (some (k : Int)) = ds.take k := by
  unfold Y.cutD
  rw [HT.sIx_none, HT.sIx_nat]
  simp
/-- a rule for m switches -/
structure RuleOk (m : Nat) (r : RuleT) : Prop where
  len : r.1.length ≤ 4
  sub : ∃ es : List Nat, r.1 = es.map (fun j : Nat => (j : Int)) ∧ es.Sublist (List.range m)
  tab : r.2.length = 2 ^ r.1.length
  bit : ∀ x ∈ r.2, 0 ≤ x ∧ x < 2
theorem bit1 {x : Int} : 0 ≤ Builtin.bitAnd x 1 ∧ Builtin.bitAnd x 1 < 2 := by
  have := Bits.bit_at (x := x) 0
  simp at this
  rw [this]
  omega
theorem rule_ok {n : Int} {m : Nat} (hm : m ≤ 100) : ∃ (r : RuleT) (n' : Int), C.g__law_rule [.lst [.int n], .int m] = .ok (.fr (dRule r), [some (.lst [.int n']), none]) ∧ RuleOk m r := by
  obtain ⟨es, n1, h1, sub⟩ := comp_exF (tm := tmName 9) (t := C.t__law_rule_1) (e := C.e__law_rule_1) (vs := [9]) (ws := []) (fun j : Nat => D.int (j : Nat)) (fun j : Nat => D.int (j : Nat)) (fun b : Int => [some (.lst [.int b]), some (.int m), none, none, none, none, none, none, none, none]) (List.range m) n (fun b j hj => by
    refine ⟨decide (b % 3 = 0), b / 3, ?_, by simp⟩
    simp only [turnC, C.t__law_rule_1, C.e__law_rule_1]
    simp [take_ok]
    split <;> rfl)
  generalize hE : (es.take 4).map (fun j : Nat => (j : Int)) = E
  have hE2 : (es.take 4).map (fun j : Nat => D.int (j : Nat)) = E.map D.int := by rw [← hE, List.map_map]; rfl
  have hL : E.length ≤ 4 := by rw [← hE]; simp; omega
  have hS : 1 ≤ 2 ^ E.length ∧ 2 ^ E.length ≤ 16 := ⟨Nat.pow_pos (by omega), Nat.pow_le_pow_right (n := 2) (by omega) hL⟩
  have hT : 1 ≤ 2 ^ 2 ^ E.length ∧ 2 ^ 2 ^ E.length ≤ 65536 := ⟨Nat.pow_pos (by omega), Nat.pow_le_pow_right (n := 2) (by omega) hS.2⟩
  have s1 := shl1 (k := E.length) (by omega)
  have s2 := shl1 (k := 2 ^ E.length) (by omega)
  have c4 : Y.cutD (es.map (fun j : Nat => D.int (j : Nat))) none (some 4) = E.map D.int := by
    rw [← hE2, List.map_take]
    exact cut_hi (k := 4)
  have rok : ∀ t : List Int, t.length = 2 ^ E.length → (∀ x ∈ t, 0 ≤ x ∧ x < 2) → RuleOk m (E, t) := fun t h1 h2 => ⟨hL, ⟨es.take 4, hE.symm, (List.take_sublist 4 es).trans sub⟩, h1, h2⟩
  have rm : rngOk m = true := rngOk_of (by omega) (by omega)
  have zm : szOk m = true := szOk_of (by omega)
  generalize 2 ^ 2 ^ E.length = T at *
  generalize hSe : 2 ^ E.length = S at *
  have rS : rngOk S = true := rngOk_of (by omega) (by omega)
  have zS : szOk S = true := szOk_of (by omega)
  have tk : ∀ (b : Int) (k : Nat), 1 ≤ k → k ≤ 65536 → C.g__law_take [.lst [.int b], .int k] = .ok (.vl (.int (b % k)), [some (.lst [.int (b / k)]), none]) := fun b k h1 h2 => take_ok (by omega) (by omega)
  have tS := fun b : Int => tk b S hS.1 (by omega)
  have tT := fun b : Int => tk b T hT.1 hT.2
  by_cases way : 0 < n1 % 3
  · -- bits drawn
    let f : Nat → Int := fun p => Builtin.bitAnd (n1 / 3 % T / 2 ^ p) 1
    have h2 : ∀ (a b c d e g : Option D), cCompL (tmName 8) cYes C.e__law_rule_2 [8] [] ((List.range S).map fun j : Nat => D.int (j : Nat)) [a, b, c, d, some (.int (n1 / 3 % T)), e, g, none, none, none] = .ok (((List.range S).map f).map D.int, [a, b, c, d, some (.int (n1 / 3 % T)), e, g, none, none, none]) := fun a b c d e g => by
      rw [List.map_map]
      exact comp_map (fun j : Nat => D.int (j : Nat)) (fun p => D.int (f p)) (List.range S) fun p hp => by
        simp only [turnC, C.e__law_rule_2]
        simp [f]
    refine ⟨(E, (List.range S).map f), n1 / 3 / T, ?_, rok _ (by simp) fun x hx => ?_⟩
    · simp only [C.g__law_rule, C.m__law_rule]
      simp [e_fnD, rm, zm, h1, c4, s1, s2, tS, tT, take_ok, way, rS, zS, h2, hS, hT, -d_shl]
    · obtain ⟨p, _, rfl⟩ := List.mem_map.mp hx
      exact bit1
  · -- by how many
    have t2 : ∀ b : Int, C.g__law_take [.lst [.int b], .int ((E.length : Nat) + 2)] = .ok (.vl (.int (b % ((E.length : Nat) + 2))), [some (.lst [.int (b / ((E.length : Nat) + 2))]), none]) := fun b => take_ok (by omega) (by omega)
    have rL : rngOk E.length = true := rngOk_of (by omega) (by omega)
    have zL : szOk E.length = true := szOk_of (by omega)
    let ms : Int := n1 / 3 % S
    let le : Int := n1 / 3 / S % ((E.length : Nat) + 2)
    let n4 : Int := n1 / 3 / S / ((E.length : Nat) + 2)
    let bt : Nat → Nat → Int := fun p j => Builtin.bitAnd (Builtin.bitXor p ms / 2 ^ j) 1
    let f : Nat → Int := fun p => if le ≤ ((List.range E.length).map (bt p)).sum then 1 else 0
    have h2 : ∀ p : Nat, ∀ (a b c d e g h : Option D), cCompL (tmName 9) cYes C.e__law_rule_3 [9] [] ((List.range E.length).map fun j : Nat => D.int (j : Nat)) [a, b, c, d, e, some (.int ms), g, h, some (.int p), none] = .ok (((List.range E.length).map (bt p)).map D.int, [a, b, c, d, e, some (.int ms), g, h, some (.int p), none]) := fun p a b c d e g h => by
      rw [List.map_map]
      exact comp_map (fun j : Nat => D.int (j : Nat)) (fun j => D.int (bt p j)) (List.range E.length) fun j hj => by
        simp only [turnC, C.e__law_rule_3]
        simp [bt]
    have h3 : forL (tmName 8) C.b__law_rule_1 [8] [] ((List.range S).map fun j : Nat => D.int (j : Nat)) [some (.lst [.int n4]), some (.int m), some (ti E), some (.int S), none, some (.int ms), some (.int le), some (.lst []), none, none] = .ok (.nx, [some (.lst [.int n4]), some (.int m), some (ti E), some (.int S), none, some (.int ms), some (.int le), some (.lst (((List.range S).map f).map D.int)), none, none]) :=
      for_rng (fun j : Nat => D.int (j : Nat)) (fun j => [some (.lst [.int n4]), some (.int m), some (ti E), some (.int S), none, some (.int ms), some (.int le), some (.lst (((List.range j).map f).map D.int)), none, none]) fun j hj => by
        refine ⟨by simp, ?_⟩
        have z1 : szOk (j + 1) = true := szOk_of (by omega)
        simp only [turnF, C.b__law_rule_1]
        simp [rL, zL, h2, z1, List.range_succ, f, -List.map_map]
    refine ⟨(E, (List.range S).map f), n4, ?_, rok _ (by simp) fun x hx => ?_⟩
    · simp only [C.g__law_rule, C.m__law_rule]
      have h3 : forL (tmName 8) C.b__law_rule_1 [8] [] ((List.range S).map fun j : Nat => D.int (j : Nat)) [some (.lst [.int (n1 / 3 / S / ((E.length : Nat) + 2))]), some (.int m), some (ti E), some (.int S), none, some (.int (n1 / 3 % S)), some (.int (n1 / 3 / S % ((E.length : Nat) + 2))), some (.lst []), none, none] = _ := h3
      simp [e_fnD, rm, zm, h1, c4, s1, s2, tS, t2, take_ok, way, rS, zS, h3, hS, hT, -d_shl, shAt]
    · obtain ⟨p, _, rfl⟩ := List.mem_map.mp hx
      simp only [f]
      split <;> omega
end H

set_option Elab.async false
set_option linter.all false
set_option maxRecDepth 100000
namespace H
open PySem PySem.Spec PyProof.Rows L2 Y
structure NetOk (ns : List RuleT) (most : Nat) : Prop where
  pos : 1 ≤ ns.length
  le : ns.length ≤ most
  rule : ∀ r ∈ ns, RuleOk ns.length r
theorem NetOk.good {ns : List RuleT} {most : Nat} (h : NetOk ns most) (hm : most ≤ 100) : GoodNet ns where
  sz := Nat.le_trans h.le hm
  ear := fun r hr => by
    have k := h.rule r hr
    refine ⟨by have := k.len; omega, fun e he => ?_, k.tab⟩
    obtain ⟨es, e1, sub⟩ := k.sub
    rw [e1] at he
    obtain ⟨j, hj, rfl⟩ := List.mem_map.mp he
    have := List.mem_range.mp (sub.subset hj)
    omega
theorem net_ok {n : Int} {most : Nat} (h0 : 1 ≤ most) (h1 : most ≤ 20) : ∃ (ns : List RuleT) (n' : Int), C.g__law_net [.lst [.int n], .int most] = .ok (.fr (dNet ns), [some (.lst [.int n']), none]) ∧ NetOk ns most := by
  have p : 0 ≤ n % (most : Int) ∧ n % (most : Int) < most := ⟨Int.emod_nonneg _ (by omega), Int.emod_lt_of_pos _ (by omega)⟩
  have tk := take_ok (n := n) (m := most) (by omega) (by omega)
  obtain ⟨M, hM⟩ : ∃ M : Nat, 1 + n % (most : Int) = M := ⟨(1 + n % (most : Int)).toNat, by omega⟩
  have hM1 : 1 ≤ M ∧ M ≤ most := by omega
  obtain ⟨ns, n2, e, hl, hr⟩ := comp_ex (tm := tmName 3) (t := cYes) (e := C.e__law_net_1) (vs := [3]) (ws := []) (fun j : Nat => D.int (j : Nat)) dRule (fun b : Int => [some (.lst [.int b]), some (.int most), some (.int M), none]) (RuleOk M) (List.range M) (n / most) (fun b j hj => by
    obtain ⟨r, b2, e, hr⟩ := rule_ok (n := b) (m := M) (by omega)
    refine ⟨r, b2, ?_, hr, by simp⟩
    simp only [turnC, C.e__law_net_1]
    simp [e])
  rw [List.length_range] at hl
  have rM : rngOk M = true := rngOk_of (by omega) (by omega)
  have zM : szOk M = true := szOk_of (by omega)
  refine ⟨ns, n2, ?_, ⟨by omega, by omega, by rw [hl]; exact hr⟩⟩
  simp only [C.g__law_net, C.m__law_net]
  simp [e_fnD, tk, hM, rM, zM, e]
theorem band1 {x : Int} : Builtin.bitAnd x 1 = x % 2 := by
  have := Bits.bit_at (x := x) 0
  simpa using this
def bitsI (m p : Nat) : List Int := (List.range m).map fun j => (((p / 2 ^ (m - 1 - j) % 2 : Nat)) : Int)
theorem bitsI_lo {m p : Nat} (h : p < 2 ^ m) : bitsI (m + 1) p = 0 :: bitsI m p := by
  unfold bitsI
  rw [List.range_succ_eq_map, List.map_cons, List.map_map]
  congr 1
  · simp [Nat.div_eq_of_lt h]
  · refine List.map_congr_left fun j hj => ?_
    show (((p / 2 ^ (m + 1 - 1 - (j + 1)) % 2 : Nat)) : Int) = _
    rw [show m + 1 - 1 - (j + 1) = m - 1 - j by omega]
theorem bitsI_hi {m p : Nat} (h : p < 2 ^ m) : bitsI (m + 1) (2 ^ m + p) = 1 :: bitsI m p := by
  unfold bitsI
  rw [List.range_succ_eq_map, List.map_cons, List.map_map]
  have hp : 0 < 2 ^ m := Nat.pow_pos (by omega)
  congr 1
  · rw [show m + 1 - 1 - 0 = m by omega, Nat.add_div_left _ hp, Nat.div_eq_of_lt h]
    rfl
  · refine List.map_congr_left fun j hj => ?_
    have hj := List.mem_range.mp hj
    show ((((2 ^ m + p) / 2 ^ (m + 1 - 1 - (j + 1)) % 2 : Nat)) : Int) = _
    rw [show m + 1 - 1 - (j + 1) = m - 1 - j by omega]
    have e : 2 ^ m = 2 ^ (m - 1 - j) * (2 * 2 ^ j) := by
      rw [show 2 * 2 ^ j = 2 ^ (j + 1) by rw [Nat.pow_succ]; omega, ← Nat.pow_add]
      congr 1
      omega
    rw [e, Nat.mul_add_div (Nat.pow_pos (by omega))]
    congr 1
    omega
theorem stands_bits : ∀ m, stands m = (List.range (2 ^ m)).map (bitsI m)
  | 0 => by simp [stands, bitsI]
  | m + 1 => by
    rw [stands, stands_bits m, Nat.pow_succ, show 2 ^ m * 2 = 2 ^ m + 2 ^ m by omega, List.range_add, List.map_append, List.map_map, List.map_map, List.map_map]
    congr 1
    · exact List.map_congr_left fun p hp => (bitsI_lo (List.mem_range.mp hp)).symm
    · exact List.map_congr_left fun p hp => (bitsI_hi (List.mem_range.mp hp)).symm
theorem law_stands_ok {m : Nat} (hm : m ≤ 20) : C.g__law_stands [.int m] = .ok (.fr (lti (stands m))) := by
  have hp : 2 ^ m ≤ 1048576 := Nat.pow_le_pow_right (n := 2) (by omega) hm
  have rm : rngOk m = true := rngOk_of (by omega) (by omega)
  have zm : szOk m = true := szOk_of (by omega)
  have s1 := shl1 (k := m) (by omega)
  have h2 : ∀ (p : Nat) (b : Option D), cCompL (tmName 3) cYes C.e__law_stands_1 [3] [] ((List.range m).map fun j : Nat => D.int (j : Nat)) [some (.int m), b, some (.int p), none] = .ok ((bitsI m p).map D.int, [some (.int m), b, some (.int p), none]) := fun p b => by
    unfold bitsI
    rw [List.map_map]
    exact comp_map (fun j : Nat => D.int (j : Nat)) (fun j => D.int ((((p / 2 ^ (m - 1 - j) % 2 : Nat)) : Int))) (List.range m) fun j hj => by
      have hj := List.mem_range.mp hj
      have e : (m : Int) - 1 - j = ((m - 1 - j : Nat) : Int) := by omega
      simp only [turnC, C.e__law_stands_1]
      simp [e, band1]
  have h3 : forL (tmName 2) C.b__law_stands_1 [2] [] ((List.range (2 ^ m)).map fun j : Nat => D.int (j : Nat)) [some (.int m), some (.lst []), none, none] = .ok (.nx, [some (.int m), some (.lst (((List.range (2 ^ m)).map (bitsI m)).map ti)), none, none]) :=
    for_rng (fun j : Nat => D.int (j : Nat)) (fun j => [some (.int m), some (.lst (((List.range j).map (bitsI m)).map ti)), none, none]) fun j hj => by
      have z1 : szOk (j + 1) = true := szOk_of (by omega)
      refine ⟨by simp, ?_⟩
      simp only [turnF, C.b__law_stands_1]
      simp [rm, zm, h2, z1, List.range_succ, -List.map_map]
  rw [← stands_bits] at h3
  generalize hS : 2 ^ m = S at *
  have rS : rngOk S = true := rngOk_of (by omega) (by omega)
  have zS : szOk S = true := szOk_of (by omega)
  simp only [C.g__law_stands, C.m__law_stands]
  simp [e_fnP, s1, rS, zS, h3, -d_shl, -List.map_map]
theorem law_ought_ok {ns : List RuleT} {st : List Int} {k : Nat} (g : GoodNet ns) (hs : IsSt ns.length st) (hk : k < ns.length) : C.g__law_ought [dNet ns, ti st, .int k] = .ok (.vl (.int (oughtI ns st k))) := by
  obtain ⟨h1, h2, h3⟩ := g.at hk
  have h5 := read_lt hs (ns.getD k ([], [])).1
  have h6 := atI_mapI (xs := (ns.getD k ([], [])).2) h5.1 (by rw [h3]; exact_mod_cast h5.2)
  have zE : szOk (ns.getD k ([], [])).1.length = true := szOk_of (by omega)
  have na := net_at hk
  have ho : oughtI ns st k = (ns.getD k ([], [])).2.getD (placeI ((ns.getD k ([], [])).1.map fun e => st.getD e.toNat 0)).toNat 0 := rfl
  rw [ho]
  clear ho
  generalize ns.getD k ([], []) = r at *
  obtain ⟨E, Tb⟩ := r
  simp only at h1 h2 h3 h5 h6 zE
  show _ = R.ok (Hd.vl (D.int (Tb.getD (placeI (E.map fun e => st.getD e.toNat 0)).toNat 0)))
  have h4 := for_run (tm := tmName 6) (body := C.b__law_ought_1) (vs := [6]) (ws := []) D.int (fun p : Int => [some (dNet ns), some (ti st), some (.int k), some (ti E), some (ti Tb), some (.int p), none]) (fun p e => 2 * p + st.getD e.toNat 0) (fun _ => True) E 0 trivial (fun p e _ he => by
    have := h2 e he
    refine ⟨trivial, by simp, ?_⟩
    simp only [turnF, C.b__law_ought_1]
    simp [atI_mapI this.1 (by rw [hs.len]; exact this.2), mulOk_r, Int.mul_comm, -List.getD_eq_getElem?_getD])
  have hf : E.foldl (fun p e => 2 * p + st.getD e.toNat 0) 0 = placeI (E.map fun e => st.getD e.toNat 0) := by rw [placeI, List.foldl_map]
  rw [hf] at h4
  simp only [C.g__law_ought, C.m__law_ought]
  simp [e_fnP, na, zE, h4.1, h6, -List.getD_eq_getElem?_getD]
theorem law_wrong_ok {ns : List RuleT} {st : List Int} (g : GoodNet ns) (hs : IsSt ns.length st) : C.g__law_wrong [dNet ns, ti st] = .ok (.fr (ln' (wrongI ns st))) := by
  have hz := g.sz
  have h : cCompL (tmName 2) C.t__law_wrong_1 C.e__law_wrong_1 [2] [] ((List.range ns.length).map fun k : Nat => D.int (k : Nat)) [some (dNet ns), some (ti st), none] = .ok ((wrongI ns st).map fun k => D.int (k : Nat), [some (dNet ns), some (ti st), none]) :=
    comp_filter (fun k : Nat => D.int (k : Nat)) (fun k => !decide (oughtI ns st k = st.getD k 0)) (fun k => D.int (k : Nat)) (List.range ns.length) (fun k hk => by
      have hk := List.mem_range.mp hk
      have a := atI_mapI (xs := st) (i := k) (by omega) (by rw [hs.len]; omega)
      simp only [turnC, C.t__law_wrong_1, C.e__law_wrong_1, Int.toNat_natCast] at a ⊢
      simp [law_ought_ok g hs hk, a, -List.getD_eq_getElem?_getD]
      by_cases c : oughtI ns st k = st.getD k 0 <;> simp [c, -List.getD_eq_getElem?_getD])
  have hr : rngOk ns.length = true := rngOk_of (by omega) (by omega)
  have hz2 : szOk ns.length = true := szOk_of (by omega)
  simp only [C.g__law_wrong, C.m__law_wrong]
  simp [e_fnP, hr, hz2, h]
end H

set_option Elab.async false
set_option linter.all false
set_option maxRecDepth 100000
namespace H
open PySem PySem.Spec PyProof.Rows L2 Y
end H

set_option Elab.async false
set_option linter.all false
set_option maxRecDepth 100000
namespace H
open PySem PySem.Spec PyProof.Rows L2 Y
theorem ixN_nat {n k : Nat} (h : k < n) : ixN n (k : Int) = some k := by
  unfold ixN
  rw [if_pos (by omega), if_pos (by omega)]
  rfl
def TabBits (ns : List RuleT) : Prop := ∀ r ∈ ns, ∀ x ∈ r.2, 0 ≤ x ∧ x < 2
theorem NetOk.tab {ns : List RuleT} {most : Nat} (h : NetOk ns most) : TabBits ns := fun r hr => (h.rule r hr).bit
end H

set_option Elab.async false
set_option linter.all false
set_option maxRecDepth 100000
namespace H
open PySem PySem.Spec PyProof.Rows L2 Y
end H

set_option Elab.async false
set_option linter.all false
set_option maxRecDepth 100000
namespace H
open PySem PySem.Spec PyProof.Rows L2 Y
theorem pairsD_map {α β : Type} {f : α → D} {g : β → D} : ∀ {xs : List α} {ys : List β}, pairsD (xs.map f) (ys.map g) = (xs.zip ys).map fun p => .tup [f p.1, g p.2]
  | [], _ => by simp [pairsD]
  | _ :: _, [] => by simp [pairsD]
  | x :: xs, y :: ys => by simp [pairsD, pairsD_map (xs := xs) (ys := ys)]
structure OrdOk (m : Nat) (o : List (List Nat)) : Prop where
  ne : ∀ b ∈ o, b ≠ []
  sub : ∀ b ∈ o, b.Sublist (List.range m)
  perm : o.flatten.Perm (List.range m)
theorem OrdOk.len {m : Nat} {o : List (List Nat)} (h : OrdOk m o) : o.length ≤ m := by
  have : ∀ o : List (List Nat), (∀ b ∈ o, b ≠ []) → o.length ≤ o.flatten.length := fun o => by
    induction o with
    | nil => simp
    | cons b o ih =>
      intro h
      have h1 := h b (by simp)
      have h2 := ih fun c hc => h c (by simp [hc])
      have : 0 < b.length := List.length_pos_iff.mpr h1
      rw [List.flatten_cons, List.length_append, List.length_cons]
      omega
  have h2 := this o h.ne
  rw [h.perm.length_eq, List.length_range] at h2
  exact h2
theorem OrdOk.apart {m : Nat} {o : List (List Nat)} (h : OrdOk m o) : o.Pairwise (fun b c => ∀ k ∈ b, k ∉ c) := by
  have : o.flatten.Nodup := h.perm.nodup_iff.mpr List.nodup_range
  have := (List.pairwise_flatten.mp this).2
  exact this.imp fun h k hk z => h k hk k z rfl
end H

set_option Elab.async false
set_option linter.all false
set_option maxRecDepth 100000
namespace H
open PySem PySem.Spec PyProof.Rows L2 Y
@[simp] theorem neD_bl {a b : Bool} : neD (.bl a) (.bl b) = .ok (.bl (a != b)) := by
  rw [neD_of (n := 0) fit_bl fit_bl, eqP_bl]
  cases a <;> cases b <;> rfl
theorem OrdOk.turn {m : Nat} {o : List (List Nat)} (h : OrdOk m o) (w : Nat) : OrdOk m (o.drop w ++ o.take w) := by
  have p : (o.drop w ++ o.take w).Perm o := by
    have := List.perm_append_comm (l₁ := o.drop w) (l₂ := o.take w)
    rwa [List.take_append_drop] at this
  exact ⟨fun b hb => h.ne b (p.mem_iff.mp hb), fun b hb => h.sub b (p.mem_iff.mp hb), p.flatten.trans h.perm⟩
end H

set_option Elab.async false
set_option linter.all false
set_option maxRecDepth 100000
namespace H
open PySem PySem.Spec PyProof.Rows L2 Y
def blk (ks : List Int) (m j : Nat) : List Nat := (List.range m).filter fun k => decide (ks.getD k 0 = (j : Nat))
end H

set_option Elab.async false
set_option linter.all false
set_option maxRecDepth 100000
set_option exponentiation.threshold 300
namespace H
open PySem PySem.Spec PyProof.Rows L2 Y
abbrev tx (l : List Nat) : Str := ⟨l.toArray⟩
abbrev dt (l : List Nat) : D := .str (tx l)
theorem tx_inj {a b : List Nat} : tx a = tx b ↔ a = b := by
  constructor
  · intro h
    have := congrArg (fun s : Str => s.cps.toList) h
    simpa using this
  · rintro rfl; rfl
theorem tx_len {a : List Nat} : (tx a).length = a.length := by
  show (a.toArray).size = _
  simp
theorem tx_add {a b : List Nat} : tx a ++ tx b = tx (a ++ b) := by
  show Str.append (tx a) (tx b) = _
  unfold Str.append
  simp
theorem add_dt {a b : List Nat} (h : a.length + b.length ≤ 16777216) : addD (dt a) (dt b) = .ok (dt (a ++ b)) := by
  rw [d_addS, tx_len, tx_len, if_pos (szOk_of h), tx_add]
theorem cut_lo {l : List Nat} {k : Nat} : cutS (tx l) none (some (k : Int)) = tx (l.take k) := by
  unfold cutS
  rw [HT.sIx_none, HT.sIx_nat, tx_len]
  simp
theorem cut_up {l : List Nat} {k : Nat} : cutS (tx l) (some (k : Int)) none = tx (l.drop k) := by
  unfold cutS
  rw [HT.sIx_none, HT.sIx_nat, tx_len]
  show tx _ = _
  rw [tx_inj]
  by_cases h : k ≤ l.length
  · rw [Nat.min_eq_left h, List.take_of_length_le (by simp)]
  · rw [Nat.min_eq_right (by omega), List.drop_of_length_le (by simp), List.drop_of_length_le (by omega)]
    simp
theorem slice_lo {l : List Nat} {k : Nat} (h : l.length ≤ 16777216) : sliceD (dt l) none (some (k : Int)) = .ok (dt (l.take k)) := by
  show (if szOk (tx l).length = true then R.ok (D.str (cutS (tx l) none (some (k : Int)))) else .stk) = _
  rw [tx_len, if_pos (szOk_of h), cut_lo]
theorem slice_up {l : List Nat} {k : Nat} (h : l.length ≤ 16777216) : sliceD (dt l) (some (k : Int)) none = .ok (dt (l.drop k)) := by
  show (if szOk (tx l).length = true then R.ok (D.str (cutS (tx l) (some (k : Int)) none)) else .stk) = _
  rw [tx_len, if_pos (szOk_of h), cut_up]
theorem ix_dt {l : List Nat} {k : Nat} (hk : k < l.length) (h : l.length ≤ 16777216) : ixD (dt l) (.int k) = .ok (dt [l.getD k 0]) := by
  have e : atI l (k : Int) = some (l.getD k 0) := by rw [atI_nat' hk, List.getD_eq_getElem?_getD, List.getElem?_eq_getElem hk]; rfl
  show (match atI (tx l).cps.toList (k : Int) with | some c => if szOk (tx l).length = true then R.ok (D.str ⟨#[c]⟩) else .stk | none => .stk) = _
  show (match atI l (k : Int) with | some c => if szOk (tx l).length = true then R.ok (D.str ⟨#[c]⟩) else .stk | none => .stk) = _
  rw [e, tx_len]
  simp [szOk_of h]
/-- signs that the machine bears -/
def SgOk (l : List Nat) : Prop := ∀ c ∈ l, c < 1114112
theorem fit_dt {n : Nat} {l : List Nat} (h : SgOk l) : Fit n (dt l) := by
  have : PyData.strOk (tx l) = true := by
    unfold PyData.strOk
    rw [← Array.all_toList, List.all_eq_true]
    intro c hc
    simpa using h c (by simpa using hc)
  cases n <;> exact this
theorem eqP_dt {a b : List Nat} : eqP (dt a) (dt b) = decide (a = b) := by
  rw [eqP_str, Bool.eq_iff_iff, beq_iff_eq, decide_eq_true_eq, tx_inj]
theorem eq_dt {a b : List Nat} (ha : SgOk a) (hb : SgOk b) : eqD (dt a) (dt b) = .ok (.bl (decide (a = b))) := by
  rw [eqD_of (n := 0) (fit_dt ha) (fit_dt hb), eqP_dt]
theorem ne_dt {a b : List Nat} (ha : SgOk a) (hb : SgOk b) : neD (dt a) (dt b) = .ok (.bl (!decide (a = b))) := by
  rw [neD_of (n := 0) (fit_dt ha) (fit_dt hb), eqP_dt]
theorem s_dash : Str.ofString "-" = tx [45] := by decide +kernel
theorem s_none : Str.ofString "" = tx [] := by decide +kernel
theorem str_bit {b : Int} (h : 0 ≤ b ∧ b < 2) : strOfD [.int b] = .ok (dt [48 + b.toNat]) := by
  have : b = 0 ∨ b = 1 := by omega
  rcases this with rfl | rfl
  · show (if (0 : Int).natAbs.log2 < 1920 then R.ok (D.str (toString (0 : Int))) else .stk) = _
    rw [if_pos (by decide)]
    exact congrArg (fun s => R.ok (D.str s)) (by decide +kernel : Str.ofString (toString (0 : Int)) = tx [48])
  · show (if (1 : Int).natAbs.log2 < 1920 then R.ok (D.str (toString (1 : Int))) else .stk) = _
    rw [if_pos (by decide)]
    exact congrArg (fun s => R.ok (D.str s)) (by decide +kernel : Str.ofString (toString (1 : Int)) = tx [49])
end H

set_option Elab.async false
set_option linter.all false
set_option maxRecDepth 100000
set_option exponentiation.threshold 300
namespace H
open PySem PySem.Spec PyProof.Rows L2 Y
theorem mem_stands : ∀ {m : Nat} {st : List Int}, st ∈ stands m ↔ IsSt m st
  | 0, st => by
    constructor
    · exact stands_st
    · intro h
      have := h.len
      cases st with
      | nil => simp [stands]
      | cons => simp at this
  | m + 1, st => by
    constructor
    · exact stands_st
    · intro h
      cases st with
      | nil => have := h.len; simp at this
      | cons x st =>
        have hx := h.bit x (by simp)
        have hs : IsSt m st := ⟨by have := h.len; simpa using this, fun y hy => h.bit y (by simp [hy])⟩
        have : st ∈ stands m := mem_stands.mpr hs
        have e : x = 0 ∨ x = 1 := by omega
        rcases e with rfl | rfl <;> simp [stands, this]
end H

set_option Elab.async false
set_option linter.all false
set_option maxRecDepth 100000
set_option exponentiation.threshold 300
namespace H
open PySem PySem.Spec PyProof.Rows L2 Y
end H

set_option Elab.async false
set_option linter.all false
set_option maxRecDepth 100000
namespace H
open PySem PySem.Spec PyProof.Rows L2 Y
theorem place0 : ∀ {xs : List Int} {p : Int}, xs.foldl (fun p b => 2 * p + b) p = p * 2 ^ xs.length + placeI xs
  | [], p => by simp [placeI]
  | x :: xs, p => by
    have h1 := place0 (xs := xs) (p := 2 * p + x)
    have h2 := place0 (xs := xs) (p := 2 * 0 + x)
    unfold placeI
    rw [List.foldl_cons, List.foldl_cons, h1, h2, List.length_cons, Int.pow_succ]
    have : (2 * p + x) * 2 ^ xs.length = p * (2 ^ xs.length * 2) + x * 2 ^ xs.length := by
      rw [Int.add_mul, Int.mul_comm 2 p, Int.mul_assoc, Int.mul_comm 2]
    rw [this]
    simp only [Int.mul_zero, Int.zero_add]
    omega
theorem place_cons {x : Int} {xs : List Int} : placeI (x :: xs) = x * 2 ^ xs.length + placeI xs := by
  have := place0 (xs := xs) (p := 2 * 0 + x)
  unfold placeI at this ⊢
  rw [List.foldl_cons, this]
  simp
structure RuleLk (r : RuleT) : Prop where
  len : r.1.length ≤ 8
  tab : r.2.length = 2 ^ r.1.length
  bit : ∀ x ∈ r.2, 0 ≤ x ∧ x < 2
theorem RuleOk.lk {m : Nat} {r : RuleT} (h : RuleOk m r) : RuleLk r := ⟨Nat.le_trans h.len (by omega), h.tab, h.bit⟩
def hasB (cs : List Nat) (st : List Int) : Bool := (cs.zip st).all fun p => decide (p.1 = 45) || decide (p.1 = 48 + p.2.toNat)
structure CaseOk (n : Nat) (cs : List Nat) : Prop where
  len : cs.length = n
  sg : ∀ c ∈ cs, c = 45 ∨ c = 48 ∨ c = 49
theorem CaseOk.sgok {n : Nat} {cs : List Nat} (h : CaseOk n cs) : SgOk cs := fun c hc => by rcases h.sg c hc with e | e | e <;> omega
theorem sg1 {c : Nat} (h : c < 1114112) : SgOk [c] := fun x hx => by simp at hx; omega
theorem numD_map {α : Type} {f : α → D} {xs : List α} : numD (xs.map f) = ((List.range xs.length).zip xs).map fun p => D.tup [.int (p.1 : Nat), f p.2] := by
  unfold numD
  rw [List.length_map, pairsD_map]
end H

set_option Elab.async false
set_option linter.all false
set_option maxRecDepth 100000
namespace H
open PySem PySem.Spec PyProof.Rows L2 Y
end H

set_option Elab.async false
set_option linter.all false
set_option maxRecDepth 100000
namespace H
open PySem PySem.Spec PyProof.Rows L2 Y
def Nd : Nat → D → Prop
  | 0, d => noDit d = true
  | n + 1, d => noDit d = true ∧ ∀ xs, d = .tup xs → xs.length ≤ 1000000 ∧ ∀ x ∈ xs, Nd n x
theorem Nd.no : ∀ {n : Nat} {d : D}, Nd n d → noDit d = true
  | 0, _, h => h
  | _ + 1, _, h => h.1
theorem Nd.down : ∀ {n : Nat} {d : D}, Nd (n + 1) d → Nd n d
  | 0, _, h => h.1
  | n + 1, _, h => ⟨h.1, fun xs e => ⟨(h.2 xs e).1, fun x hx => Nd.down ((h.2 xs e).2 x hx)⟩⟩
theorem nd_flat {n : Nat} {d : D} (h : noDit d = true) (h2 : ∀ xs, d ≠ .tup xs) : Nd n d := by
  cases n with
  | zero => exact h
  | succ n => exact ⟨h, fun xs e => absurd e (h2 xs)⟩
@[simp] theorem nd_int {n : Nat} {i : Int} : Nd n (.int i) := nd_flat rfl (by simp)
@[simp] theorem nd_bl {n : Nat} {b : Bool} : Nd n (.bl b) := nd_flat rfl (by simp)
@[simp] theorem nd_non {n : Nat} : Nd n .non := nd_flat rfl (by simp)
@[simp] theorem nd_str {n : Nat} {x : Str} : Nd n (.str x) := nd_flat rfl (by simp)
@[simp] theorem nd_lst {n : Nat} {x : List D} : Nd n (.lst x) := nd_flat rfl (by simp)
@[simp] theorem nd_dik {n : Nat} {k : List Key} {x : List D} : Nd n (.dik k x) := nd_flat rfl (by simp)
theorem nd_tup {n : Nat} {xs : List D} (hl : xs.length ≤ 1000000) (h : ∀ x ∈ xs, Nd n x) : Nd (n + 1) (.tup xs) := ⟨rfl, fun ys e => by cases e; exact ⟨hl, h⟩⟩
theorem Nd.tup {n : Nat} {xs : List D} (h : Nd (n + 1) (.tup xs)) : xs.length ≤ 1000000 ∧ ∀ x ∈ xs, Nd n x := h.2 xs rfl
theorem nd_ti {n : Nat} {xs : List Int} (hl : xs.length ≤ 1000000) : Nd n (ti xs) := by
  cases n with
  | zero => rfl
  | succ n =>
    refine nd_tup (by simpa using hl) fun x hx => ?_
    obtain ⟨y, _, rfl⟩ := List.mem_map.mp hx
    exact nd_int
def whB : D → Bool
  | .int _ => true | _ => false
def upB (m : Int) : D → Bool
  | .int i => decide (0 ≤ i ∧ i < m) | _ => false
def bitsB (m : Int) : D → Bool
  | .tup xs => decide ((xs.length : Int) = m) && xs.all (upB 2) | _ => false
theorem whole_any {d : D} (h : noDit d = true) : C.g_is_whole [d] = .ok (.fr (.bl (whB d))) := by
  cases d <;> simp [noDit] at h <;> simp [C.g_is_whole, C.m_is_whole, e_fnP, noDit, Y.isInt, Y.isBl, whB]
theorem upto_any {d : D} {m : Int} (h : noDit d = true) : C.g_is_upto [d, .int m] = .ok (.fr (.bl (upB m d))) := by
  have := whole_any h
  cases d with
  | int i => exact is_upto_int
  | _ => simp [C.g_is_upto, C.m_is_upto, e_fnP, this, whB, upB]
theorem are_bits_any {d : D} {m : Int} (h : Nd 1 d) : C.g_are_bits [d, .int m] = .ok (.fr (.bl (bitsB m d))) := by
  cases d with
  | tup xs =>
    obtain ⟨hl, hx⟩ := h.tup
    have c := comp_map (tm := tmName 2) (t := cYes) (e := C.e_are_bits_1) (vs := [2]) (ws := []) (ρ := [some (.tup xs), some (.int m), none]) (fun x : D => x) (fun x => D.bl (upB 2 x)) xs (fun x hx' => by
      have := upto_any (m := 2) (hx x hx').no
      simp [turnC, C.e_are_bits_1, this])
    rw [List.map_id'] at c
    have z : szOk xs.length = true := szOk_of (by omega)
    have e2 : (xs.map fun x => D.bl (upB 2 x)) = (xs.map (upB 2)).map D.bl := by rw [List.map_map]; rfl
    have e3 : allD [.lst (xs.map fun x => D.bl (upB 2 x))] = .ok (.bl (xs.all (upB 2))) := by rw [e2, d_all, List.all_map]; rfl
    simp only [C.g_are_bits, C.m_are_bits]
    generalize C.e_are_bits_1 = e1 at c ⊢
    by_cases hm : (xs.length : Int) = m <;> simp [e_fnP, noDit, Y.isTup, z, c, e3, hm, bitsB, -d_all]
  | dit _ _ => cases h.1
  | ftu _ => cases h.1
  | tab _ _ => cases h.1
  | _ => simp [C.g_are_bits, C.m_are_bits, e_fnP, noDit, Y.isTup, bitsB]
theorem stand_any {n : List D} {d : D} (h : Nd 1 d) : C.g_is_stand [.tup n, d] = .ok (.fr (.bl (bitsB n.length d))) := by
  have := are_bits_any (m := n.length) h
  simp [C.g_is_stand, C.m_is_stand, e_fnP, this]
theorem strs_of {α : Type} {f : α → Str} : ∀ {xs : List α}, strsOf (xs.map fun x => D.str (f x)) = some (xs.map f)
  | [] => rfl
  | x :: xs => by simp [strsOf, strs_of (xs := xs)]
theorem sum_le {α : Type} {f : α → Nat} {m : Nat} : ∀ {xs : List α}, (∀ x ∈ xs, f x ≤ m) → (xs.map f).sum ≤ xs.length * m
  | [], _ => by simp
  | x :: xs, h => by
    have h1 := h x (by simp)
    have h2 := sum_le (xs := xs) fun y hy => h y (by simp [hy])
    simp only [List.map_cons, List.sum_cons, List.length_cons, Nat.succ_mul]
    omega
theorem joinD_lst {a : Str} {ds : List D} : joinD (.str a) (.lst ds) = (match strsOf ds with | some ys => if (ys.map (·.length)).sum + ys.length * a.length ≤ 16777216 then R.ok (.str (Txt.join a ys)) else .stk | none => .stk) := by
  cases e : strsOf ds <;> simp [joinD, e]
end H

set_option Elab.async false
set_option linter.all false
set_option maxRecDepth 100000
namespace H
open PySem PySem.Spec PyProof.Rows L2 Y
theorem bitsB_ti {m : Nat} {st : List Int} (h : IsSt m st) : bitsB m (ti st) = true := by
  have h1 := h.len
  simp only [bitsB, Bool.and_eq_true, decide_eq_true_eq, List.all_eq_true, List.length_map]
  refine ⟨by omega, fun x hx => ?_⟩
  obtain ⟨y, hy, rfl⟩ := List.mem_map.mp hx
  simpa [upB] using h.bit y hy
theorem look_stand_any {n : List D} {d : D} (h : Nd 1 d) : C.g_look_at_stand [.tup n, d] = if bitsB n.length d = true then .ok (.fr .non) else .er "NoStand" [] := by
  have := stand_any (n := n) h
  simp only [C.g_look_at_stand, C.m_look_at_stand]
  cases e : bitsB n.length d <;> simp [e_fnP, this, e]
end H

set_option Elab.async false
set_option linter.all false
set_option maxRecDepth 100000
namespace H
open PySem PySem.Spec PyProof.Rows L2 Y
theorem hasB_cons {c : Nat} {cs : List Nat} {b : Int} {bs : List Int} : hasB (c :: cs) (b :: bs) = ((decide (c = 45) || decide (c = 48 + b.toNat)) && hasB cs bs) := by simp [hasB]
theorem range_getD {α : Type} {xs : List α} {d : α} {m : Nat} (h : xs.length = m) : (List.range m).map (fun j => xs.getD j d) = xs := by
  subst h
  refine List.ext_getElem (by simp) fun i h1 h2 => ?_
  simp [List.getD_eq_getElem?_getD, List.getElem?_eq_getElem h2]
def stepP (L : List Int) (c : Nat) : List Int := if c = 45 then L.map (fun p => 2 * p) ++ L.map (fun p => 2 * p + 1) else L.map fun p => 2 * p + ((c : Int) - 48)
def placesI (cs : List Nat) : List Int := cs.foldl stepP [0]
theorem mem_step {L : List Int} {c : Nat} {q : Int} (hc : c = 45 ∨ c = 48 ∨ c = 49) : q ∈ stepP L c ↔ ∃ p ∈ L, ∃ b : Int, 0 ≤ b ∧ b < 2 ∧ (c = 45 ∨ c = 48 + b.toNat) ∧ q = 2 * p + b := by
  unfold stepP
  constructor
  · intro h
    split at h
    · rename_i e
      rcases List.mem_append.mp h with h | h
      · obtain ⟨p, hp, rfl⟩ := List.mem_map.mp h
        exact ⟨p, hp, 0, by omega, by omega, .inl e, by omega⟩
      · obtain ⟨p, hp, rfl⟩ := List.mem_map.mp h
        exact ⟨p, hp, 1, by omega, by omega, .inl e, by omega⟩
    · obtain ⟨p, hp, rfl⟩ := List.mem_map.mp h
      exact ⟨p, hp, (c : Int) - 48, by omega, by omega, .inr (by omega), by omega⟩
  · rintro ⟨p, hp, b, h0, h1, h2, rfl⟩
    split
    · rename_i e
      have : b = 0 ∨ b = 1 := by omega
      rcases this with rfl | rfl
      · exact List.mem_append.mpr (.inl (List.mem_map.mpr ⟨p, hp, by omega⟩))
      · exact List.mem_append.mpr (.inr (List.mem_map.mpr ⟨p, hp, rfl⟩))
    · rename_i e
      exact List.mem_map.mpr ⟨p, hp, by omega⟩
theorem mem_places_go : ∀ {cs : List Nat} {L : List Int} {p : Int}, (∀ c ∈ cs, c = 45 ∨ c = 48 ∨ c = 49) →
    (p ∈ cs.foldl stepP L ↔ ∃ q ∈ L, ∃ bs : List Int, IsSt cs.length bs ∧ hasB cs bs = true ∧ p = q * 2 ^ cs.length + placeI bs)
  | [], L, p, _ => by
    constructor
    · intro h
      exact ⟨p, h, [], ⟨rfl, by simp⟩, rfl, by simp [placeI]⟩
    · rintro ⟨q, hq, bs, hs, _, rfl⟩
      have : bs = [] := List.eq_nil_of_length_eq_zero hs.len
      subst this
      simpa [placeI] using hq
  | c :: cs, L, p, hc => by
    have ih := mem_places_go (cs := cs) (L := stepP L c) (p := p) fun x hx => hc x (by simp [hx])
    rw [List.foldl_cons, ih]
    have e : ∀ (q b : Int) (bs : List Int), bs.length = cs.length → (2 * q + b) * 2 ^ cs.length + placeI bs = q * 2 ^ (c :: cs).length + placeI (b :: bs) := fun q b bs hl => by
      rw [place_cons, hl, List.length_cons, Int.pow_succ]
      grind
    constructor
    · rintro ⟨q', hq', bs, hs, hb, rfl⟩
      obtain ⟨q, hq, b, h0, h1, h2, rfl⟩ := (mem_step (hc c (by simp))).mp hq'
      refine ⟨q, hq, b :: bs, ⟨by simp [hs.len], fun x hx => ?_⟩, ?_, e _ _ _ hs.len⟩
      · rcases List.mem_cons.mp hx with rfl | hx
        · exact ⟨h0, h1⟩
        · exact hs.bit x hx
      · rw [hasB_cons, hb]
        rcases h2 with h2 | h2 <;> simp [h2]
    · rintro ⟨q, hq, bs, hs, hb, rfl⟩
      cases bs with
      | nil => have := hs.len; simp at this
      | cons b bs =>
        have hb2 := hs.bit b (by simp)
        rw [hasB_cons, Bool.and_eq_true, Bool.or_eq_true, decide_eq_true_eq, decide_eq_true_eq] at hb
        have hl : bs.length = cs.length := by have := hs.len; simpa using this
        exact ⟨2 * q + b, (mem_step (hc c (by simp))).mpr ⟨q, hq, b, hb2.1, hb2.2, hb.1, rfl⟩, bs, ⟨hl, fun x hx => hs.bit x (by simp [hx])⟩, hb.2, (e _ _ _ hl).symm⟩
theorem mem_places {cs : List Nat} {p : Int} (hc : ∀ c ∈ cs, c = 45 ∨ c = 48 ∨ c = 49) : p ∈ placesI cs ↔ ∃ bs : List Int, IsSt cs.length bs ∧ hasB cs bs = true ∧ p = placeI bs := by
  unfold placesI
  rw [mem_places_go hc]
  constructor
  · rintro ⟨q, hq, bs, hs, hb, rfl⟩
    simp only [List.mem_cons, List.not_mem_nil, or_false] at hq
    subst hq
    exact ⟨bs, hs, hb, by omega⟩
  · rintro ⟨bs, hs, hb, rfl⟩
    exact ⟨0, by simp, bs, hs, hb, by omega⟩
theorem extend : ∀ (es : List Nat) (bs : List Int) (g : Nat → Int), es.Nodup → es.length = bs.length → ∃ h : Nat → Int, es.map h = bs ∧ ∀ j, j ∉ es → h j = g j
  | [], bs, g, _, hl => ⟨g, by rw [List.map_nil]; exact (List.eq_nil_of_length_eq_zero hl.symm).symm, fun _ _ => rfl⟩
  | e :: es, [], g, _, hl => by simp at hl
  | e :: es, b :: bs, g, hn, hl => by
    obtain ⟨hn1, hn2⟩ := List.nodup_cons.mp hn
    obtain ⟨h, h1, h2⟩ := extend es bs g hn2 (by simpa using hl)
    refine ⟨fun j => if j = e then b else h j, ?_, fun j hj => ?_⟩
    · rw [List.map_cons, if_pos rfl, ← h1]
      congr 1
      refine List.map_congr_left fun j hj => ?_
      show (if j = e then b else h j) = h j
      rw [if_neg fun q : j = e => hn1 (q ▸ hj)]
    · show (if j = e then b else h j) = g j
      rw [if_neg fun q => hj (by simp [q]), h2 j fun q => hj (by simp [q])]
def signsAt (f : List Nat) (es : List Int) : List Nat := es.map fun e => f.getD e.toNat 0
def bitsF (ns : List RuleT) (f : List Nat) (k : Nat) : List Int := setI ((placesI (signsAt f (ns.getD k ([], [])).1)).map fun p => (ns.getD k ([], [])).2.getD p.toNat 0)
structure EarsOk (m : Nat) (r : RuleT) : Prop where
  sub : ∃ es : List Nat, r.1 = es.map (fun j : Nat => (j : Int)) ∧ es.Nodup ∧ ∀ j ∈ es, j < m
theorem RuleOk.ears {m : Nat} {r : RuleT} (h : RuleOk m r) : EarsOk m r := by
  obtain ⟨es, e1, s⟩ := h.sub
  exact ⟨es, e1, s.nodup List.nodup_range, fun j hj => List.mem_range.mp (s.subset hj)⟩
theorem getD_sg {f : List Nat} (h : ∀ c ∈ f, c = 45 ∨ c = 48 ∨ c = 49) {j : Nat} (hj : j < f.length) : f.getD j 0 = 45 ∨ f.getD j 0 = 48 ∨ f.getD j 0 = 49 := by
  rw [List.getD_eq_getElem?_getD, List.getElem?_eq_getElem hj]
  exact h _ (List.getElem_mem hj)
end H

set_option Elab.async false
set_option linter.all false
set_option maxRecDepth 100000
namespace H
open PySem PySem.Spec PyProof.Rows L2 Y
theorem int_of_sg {c : Nat} (h : c = 48 ∨ c = 49) : intOfD [dt [c]] = .ok (.int ((c : Int) - 48)) := by
  rcases h with rfl | rfl <;> rfl
abbrev li (xs : List Int) : D := .lst (xs.map D.int)
theorem stepP_len {L : List Int} {c : Nat} : (stepP L c).length ≤ 2 * L.length := by
  unfold stepP
  split <;> simp <;> omega
theorem places_len_go : ∀ {cs : List Nat} {L : List Int}, (cs.foldl stepP L).length ≤ 2 ^ cs.length * L.length
  | [], L => by simp
  | c :: cs, L => by
    have h1 := places_len_go (cs := cs) (L := stepP L c)
    have h2 := stepP_len (L := L) (c := c)
    have h3 := Nat.mul_le_mul_left (2 ^ cs.length) h2
    rw [List.foldl_cons, List.length_cons, Nat.pow_succ, Nat.mul_assoc]
    exact Nat.le_trans h1 h3
theorem places_len {cs : List Nat} : (placesI cs).length ≤ 2 ^ cs.length := by
  have := places_len_go (cs := cs) (L := [0])
  simpa [placesI] using this
theorem places_ok {cs : List Nat} (hl : cs.length ≤ 20) (hc : ∀ c ∈ cs, c = 45 ∨ c = 48 ∨ c = 49) : C.g_places_in [.lst (cs.map fun c => dt [c])] = .ok (.vl (li (placesI cs))) := by
  obtain ⟨T, hT⟩ : ∃ T, D.lst (cs.map fun c => dt [c]) = T := ⟨_, rfl⟩
  have h := for_idx (tm := tmName 2) (body := C.b_places_in_1) (vs := [2]) (ws := []) (fun c : Nat => dt [c]) cs (fun i => [some T, some (li (placesI (cs.take i))), none, none]) (fun i hi => by
    refine ⟨by simp, ?_⟩
    have hx := hc _ (List.getElem_mem hi)
    have z1 : (placesI (cs.take i)).length ≤ 2 ^ 20 := Nat.le_trans places_len (Nat.pow_le_pow_right (by omega) (by rw [List.length_take]; omega))
    have e1 : placesI (cs.take (i + 1)) = stepP (placesI (cs.take i)) cs[i] := by
      rw [placesI, List.take_succ_eq_append_getElem hi, List.foldl_append]
      rfl
    rw [e1]
    generalize placesI (cs.take i) = L at z1
    generalize cs[i] = c at hx
    have zL : szOk L.length = true := szOk_of (by omega)
    have zLL : szOk (L.length + L.length) = true := szOk_of (by omega)
    have q1 : ∀ ρ0 ρ1 ρ2, cCompL (tmName 3) cYes C.e_places_in_1 [3] [] (L.map D.int) [ρ0, ρ1, ρ2, none] = .ok (L.map fun p => D.int (2 * p), [ρ0, ρ1, ρ2, none]) := fun ρ0 ρ1 ρ2 =>
      comp_map D.int (fun p => D.int (2 * p)) L fun x _ => by
        have : mulOk 2 x = true := mulOk_l (by decide)
        simp [turnC, C.e_places_in_1, this]
    have q2 : ∀ ρ0 ρ1 ρ2, cCompL (tmName 3) cYes C.e_places_in_2 [3] [] (L.map D.int) [ρ0, ρ1, ρ2, none] = .ok (L.map fun p => D.int (2 * p + 1), [ρ0, ρ1, ρ2, none]) := fun ρ0 ρ1 ρ2 =>
      comp_map D.int (fun p => D.int (2 * p + 1)) L fun x _ => by
        have : mulOk 2 x = true := mulOk_l (by decide)
        simp [turnC, C.e_places_in_2, this]
    have ne := eq_dt (a := [c]) (b := [45]) (sg1 (by omega)) (sg1 (by omega))
    by_cases e : c = 45
    · subst e
      simp only [turnF, C.b_places_in_1, s_dash]
      generalize C.e_places_in_1 = B1 at q1 ⊢
      generalize C.e_places_in_2 = B2 at q2 ⊢
      simp [ne, zL, zLL, q1, q2, stepP]
      rfl
    · have q3 : ∀ ρ0 ρ1, cCompL (tmName 3) cYes C.e_places_in_3 [3] [] (L.map D.int) [ρ0, ρ1, some (dt [c]), none] = .ok (L.map fun p => D.int (2 * p + ((c : Int) - 48)), [ρ0, ρ1, some (dt [c]), none]) := fun ρ0 ρ1 =>
        comp_map D.int (fun p => D.int (2 * p + ((c : Int) - 48))) L fun x _ => by
          have : mulOk 2 x = true := mulOk_l (by decide)
          have i1 := int_of_sg (c := c) (by omega)
          simp [turnC, C.e_places_in_3, this, i1]
      simp only [turnF, C.b_places_in_1, s_dash]
      generalize C.e_places_in_3 = B3 at q3 ⊢
      simp [ne, e, zL, q3, stepP])
  rw [List.take_length] at h
  have h : forL _ _ _ _ _ [some T, some (li (placesI [])), none, none] = _ := h
  have z : szOk cs.length = true := szOk_of (by omega)
  simp only [C.g_places_in, C.m_places_in]
  generalize C.b_places_in_1 = B at h ⊢
  have e0 : li (placesI []) = .lst [.int 0] := rfl
  rw [e0] at h
  have iT : itD T = .ok (cs.map fun c => dt [c]) := by rw [← hT]; rfl
  rw [hT]
  simp [e_fnP, iT, z, h]
theorem three_bits : ∀ {xs : List Int}, xs.Pairwise (· < ·) → (∀ x ∈ xs, 0 ≤ x ∧ x < 2) → xs.length ≤ 2
  | [], _, _ => by simp
  | [_], _, _ => by simp
  | [_, _], _, _ => by simp
  | a :: b :: c :: r, h, hb => by
    have h1 := hb a (by simp)
    have h3 := hb c (by simp)
    rw [List.pairwise_cons] at h
    obtain ⟨h4, h5⟩ := h
    rw [List.pairwise_cons] at h5
    have h6 := h4 b (by simp)
    have h7 := h5.1 c (by simp)
    omega
theorem dedup_bits {xs : List Int} (h : ∀ x ∈ xs, 0 ≤ x ∧ x < 2) : (dedupI xs).length < 64 := by
  have := three_bits (setI_lt (xs := xs)) fun x hx => h x (setI_mem.mp hx)
  rw [setI_len] at this
  omega
theorem places_lt {cs : List Nat} (hc : ∀ c ∈ cs, c = 45 ∨ c = 48 ∨ c = 49) {p : Int} (h : p ∈ placesI cs) : 0 ≤ p ∧ p < 2 ^ cs.length := by
  obtain ⟨bs, hs, _, rfl⟩ := (mem_places hc).mp h
  have := placeI_lt hs.bit
  rwa [hs.len] at this
theorem bits_for_ok {r : RuleT} {cs : List Nat} (h : RuleLk r) (hl : cs.length = r.1.length) (hc : ∀ c ∈ cs, c = 45 ∨ c = 48 ∨ c = 49) :
    C.g_bits_for [dRule r, .lst (cs.map fun c => dt [c])] = .ok (.fr (li (setI ((placesI cs).map fun p => r.2.getD p.toNat 0)))) := by
  have l8 := h.len
  obtain ⟨T, hT⟩ : ∃ T, D.lst (cs.map fun c => dt [c]) = T := ⟨_, rfl⟩
  have pl := places_ok (cs := cs) (by omega) hc
  have ll : (placesI cs).length ≤ 256 := Nat.le_trans places_len (Nat.le_trans (Nat.pow_le_pow_right (by omega) (by omega : cs.length ≤ 8)) (by omega))
  have q := comp_map (tm := tmName 2) (t := cYes) (e := C.e_bits_for_1) (vs := [2]) (ws := []) (ρ := [some (dRule r), some T, none]) D.int (fun p => D.int (r.2.getD p.toNat 0)) (placesI cs) (fun p hp => by
    have b := places_lt hc hp
    have a := atI_mapI (xs := r.2) b.1 (by rw [h.tab, ← hl]; exact_mod_cast b.2)
    simp only [turnC, C.e_bits_for_1]
    simp [ixD, atI_of (i := 1) (j := 1), a, -List.getD_eq_getElem?_getD])
  have e2 : ((placesI cs).map fun p => D.int (r.2.getD p.toNat 0)) = ((placesI cs).map fun p => r.2.getD p.toNat 0).map D.int := by rw [List.map_map]; rfl
  rw [e2] at q
  have dl := dedup_bits (xs := (placesI cs).map fun p => r.2.getD p.toNat 0) fun x hx => by
    obtain ⟨p, _, rfl⟩ := List.mem_map.mp hx
    exact getD_bit h.bit _
  have z : szOk (placesI cs).length = true := szOk_of (by omega)
  rw [hT] at pl ⊢
  simp only [C.g_bits_for, C.m_bits_for]
  generalize C.e_bits_for_1 = B at q ⊢
  generalize hX : ((placesI cs).map fun p => r.2.getD p.toNat 0) = X at *
  have lX : X.length ≤ 4000 := by rw [← hX, List.length_map]; omega
  simp [e_fnP, pl, z, q, lX, dl]
theorem NetOk.lk {ns : List RuleT} {most k : Nat} (h : NetOk ns most) (hk : k < ns.length) : RuleOk ns.length (ns.getD k ([], [])) := by
  rw [List.getD_eq_getElem?_getD, List.getElem?_eq_getElem hk]
  exact h.rule _ (List.getElem_mem hk)
theorem bits_in_ok {ns : List RuleT} {most k : Nat} {f : List Nat} (ok : NetOk ns most) (hm : most ≤ 20) (hf : CaseOk ns.length f) (hk : k < ns.length) :
    C.g_bits_in [dNet ns, dt f, .int k] = .ok (.fr (li (bitsF ns f k))) := by
  have rk := ok.lk hk
  have l20 := ok.le
  have g := (ok.good (by omega)).at hk
  have fl := hf.len
  have hsg : ∀ c ∈ signsAt f (ns.getD k ([], [])).1, c = 45 ∨ c = 48 ∨ c = 49 := fun c hc => by
    obtain ⟨e, he, rfl⟩ := List.mem_map.mp hc
    have := g.2.1 e he
    exact getD_sg hf.sg (by omega)
  have bf := bits_for_ok (r := ns.getD k ([], [])) (cs := signsAt f (ns.getD k ([], [])).1) rk.lk (by simp [signsAt]) hsg
  have a := net_at hk
  generalize hr : ns.getD k ([], []) = r at *
  have q := comp_map (tm := tmName 3) (t := cYes) (e := C.e_bits_in_1) (vs := [3]) (ws := []) (ρ := [some (dNet ns), some (dt f), some (.int k), none]) D.int (fun e => dt [f.getD e.toNat 0]) r.1 (fun e he => by
    have := g.2.1 e he
    have i1 := ix_dt (l := f) (k := e.toNat) (by omega) (by omega)
    rw [show ((e.toNat : Nat) : Int) = e by omega] at i1
    simp only [turnC, C.e_bits_in_1]
    simp [i1, -List.getD_eq_getElem?_getD])
  have e2 : (r.1.map fun e => dt [f.getD e.toNat 0]) = (signsAt f r.1).map fun c => dt [c] := by
    unfold signsAt
    rw [List.map_map]
    rfl
  rw [e2] at q
  have e3 : bitsF ns f k = setI ((placesI (signsAt f r.1)).map fun p => r.2.getD p.toNat 0) := by unfold bitsF; rw [hr]
  rw [e3]
  generalize setI ((placesI (signsAt f r.1)).map fun p => r.2.getD p.toNat 0) = X at bf ⊢
  generalize (signsAt f r.1).map (fun c => dt [c]) = Y1 at q bf
  have z : szOk r.1.length = true := szOk_of (by have := rk.len; omega)
  simp only [C.g_bits_in, C.m_bits_in]
  generalize C.e_bits_in_1 = B at q ⊢
  simp [e_fnP, ixD, a, atI_of (i := 0) (j := 0), q, z, bf]
end H

set_option Elab.async false
set_option linter.all false
set_option maxRecDepth 100000
namespace H
open PySem PySem.Spec PyProof.Rows L2 Y
end H

set_option Elab.async false
set_option linter.all false
set_option maxRecDepth 100000
namespace H
open PySem PySem.Spec PyProof.Rows L2 Y
theorem join_str : ∀ xs : List Nat, Str.join (tx []) (xs.map fun c => tx [c]) = tx xs
  | [] => rfl
  | [_] => rfl
  | x :: y :: r => by
    have := join_str (y :: r)
    simp only [List.map_cons] at this ⊢
    show tx [x] ++ tx [] ++ Str.join (tx []) (tx [y] :: r.map fun c => tx [c]) = _
    rw [this, tx_add, tx_add]
    rfl
theorem join_tx (xs : List Nat) : Txt.join (Str.ofString "") (xs.map fun c => tx [c]) = tx xs := by
  rw [s_none, TL.join_eq, join_str]
theorem join_dt {f : List Nat} (hl : f.length ≤ 10000) : joinD (.str (Str.ofString "")) (.lst (f.map fun c => dt [c])) = .ok (dt f) := by
  have z := sum_le (f := fun c : Nat => (tx [c]).length) (m := 1) (xs := f) fun x _ => by rw [tx_len]; simp
  have e : (Str.ofString "").length = 0 := by decide +kernel
  have e2 : ((f.map fun c : Nat => tx [c]).map (·.length)).sum = (f.map fun c : Nat => (tx [c]).length).sum := by rw [List.map_map]; rfl
  rw [joinD_lst, strs_of]
  simp only
  rw [if_pos, join_tx]
  rw [e, e2]
  omega
theorem foldl_rep {c : Nat} : ∀ (m : Nat) (a : List Nat), (List.replicate m #[c]).foldl (· ++ ·) a.toArray = (a ++ List.replicate m c).toArray
  | 0, a => by simp
  | m + 1, a => by
    have e : a.toArray ++ #[c] = (a ++ [c]).toArray := by simp
    rw [List.replicate_succ, List.foldl_cons, e, foldl_rep m (a ++ [c]), List.replicate_succ, List.append_assoc]
    rfl
theorem rep_tx {k : Int} {c : Nat} : repS k (tx [c]) = tx (List.replicate k.toNat c) := by
  unfold repS
  by_cases h : k < 1
  · rw [if_pos h, show k.toNat = 0 by omega]
    rfl
  · rw [if_neg h]
    have l : (tx [c]).length = 1 := rfl
    by_cases h1 : k = 1
    · subst h1
      rw [if_pos (by rfl)]
      rfl
    · rw [if_neg (by simp [h1, l])]
      have := foldl_rep (c := c) k.toNat []
      rw [List.nil_append] at this
      exact congrArg Str.mk this
end H

set_option Elab.async false
set_option linter.all false
set_option maxRecDepth 100000
namespace H
open PySem PySem.Spec PyProof.Rows L2 Y
inductive Pap where
  | rest | against (k : Nat) | split (k : Nat) (a b : Pap)
abbrev wRest : D := dt [114, 101, 115, 116]
abbrev wAg : D := dt [97, 103, 97, 105, 110, 115, 116]
abbrev wSplit : D := dt [115, 112, 108, 105, 116]
def Pap.d : Pap → D
  | .rest => .tup [wRest]
  | .against k => .tup [wAg, .int k]
  | .split k a b => .tup [wSplit, .int k, a.d, b.d]
def Pap.ok (m : Nat) : Pap → Prop
  | .rest => True
  | .against k => k < m
  | .split k a b => k < m ∧ a.ok m ∧ b.ok m
theorem j2 {a b : D} : atI [a, b] 0 = some a ∧ atI [a, b] 1 = some b := ⟨atI_of (j := 0) rfl rfl, atI_of (j := 1) rfl rfl⟩
def sign (f : List Nat) (k c : Nat) : List Nat := f.take k ++ c :: f.drop (k + 1)
theorem sign_ok {m k c : Nat} {f : List Nat} (hf : CaseOk m f) (hk : k < m) (hc : c = 45 ∨ c = 48 ∨ c = 49) : CaseOk m (sign f k c) := by
  have fl := hf.len
  refine ⟨by unfold sign; simp; omega, fun x hx => ?_⟩
  unfold sign at hx
  simp only [List.mem_append, List.mem_cons] at hx
  rcases hx with hx | rfl | hx
  · exact hf.sg x (List.mem_of_mem_take hx)
  · exact hc
  · exact hf.sg x (List.mem_of_mem_drop hx)
def dash (f : List Nat) : Nat := (f.filter fun c => decide (c = 45)).length
theorem dash_sign {k c : Nat} {f : List Nat} (hk : k < f.length) (h : f.getD k 0 = 45) (hc : c ≠ 45) : dash (sign f k c) + 1 = dash f := by
  have e : f = f.take k ++ 45 :: f.drop (k + 1) := by
    have h1 : f[k] = 45 := by
      rw [List.getD_eq_getElem?_getD, List.getElem?_eq_getElem hk] at h
      exact h
    rw [← h1, ← List.drop_eq_getElem_cons hk, List.take_append_drop]
  have e2 : dash f = dash (f.take k ++ 45 :: f.drop (k + 1)) := congrArg dash e
  rw [e2]
  unfold dash sign
  rw [List.filter_append, List.filter_append, List.filter_cons, List.filter_cons, if_neg (by simpa using hc), if_pos (by rfl), List.length_append, List.length_append, List.length_cons]
  omega
theorem with_sign_ok {m k c : Nat} {f : List Nat} (hm : m ≤ 20) (hf : CaseOk m f) (hk : k < m) : C.g_with_sign [dt f, .int k, dt [c]] = .ok (.fr (dt (sign f k c))) ∧ C.g__law_sign [dt f, .int k, dt [c]] = .ok (.fr (dt (sign f k c))) := by
  have fl := hf.len
  have s1 := slice_lo (l := f) (k := k) (by omega)
  have s2 := slice_up (l := f) (k := k + 1) (by omega)
  rw [show (((k + 1 : Nat)) : Int) = (k : Int) + 1 by omega] at s2
  have a1 := add_dt (a := f.take k) (b := [c]) (by rw [List.length_take]; simp; omega)
  have a2 := add_dt (a := f.take k ++ [c]) (b := f.drop (k + 1)) (by rw [List.length_append, List.length_take, List.length_drop]; simp; omega)
  have e : f.take k ++ [c] ++ f.drop (k + 1) = sign f k c := by unfold sign; rw [List.append_assoc]; rfl
  rw [e] at a2
  simp only [C.g_with_sign, C.m_with_sign, C.g__law_sign, C.m__law_sign]
  generalize sign f k c = w at a2 ⊢
  generalize f.take k ++ [c] = x at a1 a2
  generalize f.take k = y at a1 s1
  generalize f.drop (k + 1) = z at a2 s2
  have a1 : addD (D.str (tx y)) (D.str (tx [c])) = _ := a1
  have a2 : addD (D.str (tx x)) (D.str (tx z)) = _ := a2
  constructor <;> simp [e_fnP, s1, s2, a1, a2, -d_addS]
def both (x y : Option (List (List Int))) : Option (List (List Int)) := match x with
  | none => none
  | some a => match y with
    | none => none
    | some b => some (a ++ b)
end H

set_option Elab.async false
set_option linter.all false
set_option maxRecDepth 100000
namespace H
open PySem PySem.Spec PyProof.Rows L2 Y
end H

set_option Elab.async false
set_option linter.all false
set_option maxRecDepth 100000
namespace H
open PySem PySem.Spec PyProof.Rows L2 Y
theorem whileN_step' {t : BM} {body : SM} {vs : List Nat} {n : Nat} {ρ ρ1 ρ2 : Y.Env} (h1 : t ρ = .ok (true, ρ1)) (h2 : body ρ1 = .ok (.nx, ρ2)) : whileN t body vs (n + 1) ρ = whileN t body vs n (wipeE ρ2 vs) := by
  conv => lhs; unfold whileN
  rw [h1]
  simp only [R.bind_ok, if_true]
  rw [h2]
  rfl
theorem whileN_stop' {t : BM} {body : SM} {vs : List Nat} {n : Nat} {ρ ρ1 : Y.Env} (h1 : t ρ = .ok (false, ρ1)) : whileN t body vs (n + 1) ρ = .ok (.nx, ρ1) := by
  unfold whileN
  rw [h1]
  rfl
end H

set_option Elab.async false
set_option linter.all false
set_option maxRecDepth 100000
namespace H
open PySem PySem.Spec PyProof.Rows L2 Y
def bitOf (ns : List RuleT) (f : List Nat) (k : Nat) : Int := (bitsF ns f k).getD 0 0
def oneB (ns : List RuleT) (f : List Nat) (k : Nat) : Bool := decide (f.getD k 0 = 45) && decide ((bitsF ns f k).length = 1)
def toldI (ns : List RuleT) (f : List Nat) : List Nat := (List.range ns.length).filter (oneB ns f)
def sgOf (ns : List RuleT) (f : List Nat) (k : Nat) : Nat := 48 + (bitOf ns f k).toNat
def closeS (ns : List RuleT) (f : List Nat) (g : List Nat) (ks : List Nat) : List Nat := ks.foldl (fun g k => sign g k (sgOf ns f k)) g
theorem sign_getD {m : Nat} {f : List Nat} (hf : f.length = m) {k j c : Nat} (hk : k < m) : (sign f k c).getD j 0 = if j = k then c else f.getD j 0 := by
  unfold sign
  rw [List.getD_eq_getElem?_getD, List.getD_eq_getElem?_getD]
  have lt : (f.take k).length = k := by rw [List.length_take]; omega
  by_cases h1 : j < k
  · rw [List.getElem?_append_left (by omega), if_neg (by omega), List.getElem?_take_of_lt h1]
  · rw [List.getElem?_append_right (by omega), lt]
    by_cases h2 : j = k
    · subst h2
      rw [Nat.sub_self, if_pos rfl]
      rfl
    · rw [if_neg h2]
      obtain ⟨i, rfl⟩ := Nat.exists_eq_add_of_le (show k + 1 ≤ j by omega)
      rw [show k + 1 + i - k = i + 1 by omega, List.getElem?_cons_succ, List.getElem?_drop]
theorem bitOf_bit {ns : List RuleT} {most k : Nat} {f : List Nat} (ok : NetOk ns most) (hf : CaseOk ns.length f) (hk : k < ns.length) (h : (bitsF ns f k).length = 1) : (0 ≤ bitOf ns f k ∧ bitOf ns f k < 2) ∧ bitsF ns f k = [bitOf ns f k] := by
  have e : bitsF ns f k = [bitOf ns f k] := by
    unfold bitOf
    match q : bitsF ns f k with
    | [] => rw [q] at h; cases h
    | [x] => rfl
    | x :: y :: z => rw [q] at h; simp at h
  refine ⟨?_, e⟩
  have m : bitOf ns f k ∈ bitsF ns f k := by rw [e]; simp
  unfold bitsF at m
  rw [setI_mem, List.mem_map] at m
  obtain ⟨p, _, hp⟩ := m
  rw [← hp]
  exact getD_bit (ok.lk hk).bit _
theorem filter_snoc {p : Nat → Bool} {j : Nat} : (List.range (j + 1)).filter p = (List.range j).filter p ++ (if p j = true then [j] else []) := by
  rw [List.range_succ, List.filter_append]
  congr 1
  by_cases q : p j = true
  · rw [if_pos q, List.filter_cons, if_pos q]; rfl
  · rw [if_neg q, List.filter_cons, if_neg q]; rfl
theorem bitsF_two {ns : List RuleT} {most k : Nat} {f : List Nat} (ok : NetOk ns most) (hf : CaseOk ns.length f) (hk : k < ns.length) : (bitsF ns f k).length ≤ 2 := by
  unfold bitsF
  refine three_bits setI_lt fun x hx => ?_
  rw [setI_mem, List.mem_map] at hx
  obtain ⟨p, _, rfl⟩ := hx
  exact getD_bit (ok.lk hk).bit _
theorem closeS_ok {ns : List RuleT} {most : Nat} {f : List Nat} (ok : NetOk ns most) (hf : CaseOk ns.length f) : ∀ {ks : List Nat} {g : List Nat}, CaseOk ns.length g → ks.Nodup → (∀ k ∈ ks, k < ns.length ∧ oneB ns f k = true ∧ g.getD k 0 = 45) →
    CaseOk ns.length (closeS ns f g ks) ∧ dash (closeS ns f g ks) + ks.length = dash g
  | [], g, hg, _, _ => ⟨hg, rfl⟩
  | k :: ks, g, hg, hn, h => by
    obtain ⟨h1, h2, h3⟩ := h k (by simp)
    rw [List.nodup_cons] at hn
    have hb : (bitsF ns f k).length = 1 := by
      unfold oneB at h2
      rw [Bool.and_eq_true] at h2
      exact of_decide_eq_true h2.2
    obtain ⟨b1, _⟩ := bitOf_bit ok hf h1 hb
    have hc : sgOf ns f k = 48 ∨ sgOf ns f k = 49 := by unfold sgOf; omega
    have hs := sign_ok hg h1 (show sgOf ns f k = 45 ∨ sgOf ns f k = 48 ∨ sgOf ns f k = 49 by omega)
    obtain ⟨i1, i2⟩ := closeS_ok ok hf (ks := ks) hs hn.2 fun j hj => by
      obtain ⟨j1, j2, j3⟩ := h j (by simp [hj])
      refine ⟨j1, j2, ?_⟩
      rw [sign_getD hg.len h1, if_neg (show ¬ j = k from fun z => hn.1 (by rw [← z]; exact hj))]
      exact j3
    refine ⟨i1, ?_⟩
    have d := dash_sign (k := k) (c := sgOf ns f k) (f := g) (by rw [hg.len]; exact h1) h3 (by omega)
    show dash (closeS ns f (sign g k (sgOf ns f k)) ks) + (ks.length + 1) = dash g
    omega
theorem told_mem {ns : List RuleT} {f : List Nat} {k : Nat} : k ∈ toldI ns f ↔ k < ns.length ∧ oneB ns f k = true := by
  unfold toldI
  rw [List.mem_filter, List.mem_range]
abbrev toldD (ns : List RuleT) (f : List Nat) (ks : List Nat) : D := .dik (ks.map fun k : Nat => (Sum.inl (k : Int) : Key)) (ks.map fun k => D.int (bitOf ns f k))
theorem put_new {ks : List Nat} {k : Nat} (h : k ∉ ks) {ds : List D} {d : D} : putKs (ks.map fun k : Nat => (Sum.inl (k : Int) : Key)) (Sum.inl (k : Int)) = (ks ++ [k]).map (fun k : Nat => (Sum.inl (k : Int) : Key)) ∧ putDs (ks.map fun k : Nat => (Sum.inl (k : Int) : Key)) ds (Sum.inl (k : Int)) d = ds ++ [d] := by
  have n : (Sum.inl (k : Int) : Key) ∉ ks.map fun k : Nat => (Sum.inl (k : Int) : Key) := fun z => by
    obtain ⟨j, hj, e⟩ := List.mem_map.mp z
    have e2 := Sum.inl.inj e
    exact h (by rw [← show j = k by omega]; exact hj)
  unfold putKs putDs
  rw [if_neg n, if_neg n, List.map_append]
  exact ⟨rfl, rfl⟩
theorem told_alone_ok {ns : List RuleT} {most : Nat} {f : List Nat} (ok : NetOk ns most) (hm : most ≤ 20) (hf : CaseOk ns.length f) : C.g_told_alone [dNet ns, dt f] = .ok (.fr (toldD ns f (toldI ns f))) := by
  have l20 := ok.le
  have fl := hf.len
  have h := for_rng (tm := tmName 3) (body := C.b_told_alone_1) (vs := [3, 4]) (ws := []) (n := ns.length) (fun j : Nat => D.int (j : Nat)) (fun j => [some (dNet ns), some (dt f), some (toldD ns f ((List.range j).filter (oneB ns f))), none, none]) fun j hj => by
    have b := bits_in_ok ok hm hf hj
    have i1 := ix_dt (l := f) (k := j) (by omega) (by omega)
    have sg := getD_sg hf.sg (j := j) (by omega)
    have e1 := eq_dt (a := [f.getD j 0]) (b := [45]) (sg1 (by omega)) (sg1 (by omega))
    have zl := szOk_of (n := ((List.range j).filter (oneB ns f)).length + 1) (by
      have := List.length_filter_le (oneB ns f) (List.range j)
      rw [List.length_range] at this
      omega)
    have nj : j ∉ (List.range j).filter (oneB ns f) := fun z => by
      have := List.mem_range.mp (List.mem_filter.mp z).1
      omega
    obtain ⟨p1, p2⟩ := put_new nj (ds := ((List.range j).filter (oneB ns f)).map fun k => D.int (bitOf ns f k)) (d := .int (bitOf ns f j))
    refine ⟨by simp, ?_⟩
    have ef : (List.range (j + 1)).filter (oneB ns f) = (List.range j).filter (oneB ns f) ++ (if oneB ns f j = true then [j] else []) := by
      rw [List.range_succ, List.filter_append]
      congr 1
      by_cases q : oneB ns f j = true
      · rw [if_pos q, List.filter_cons, if_pos q]; rfl
      · rw [if_neg q, List.filter_cons, if_neg q]; rfl
    rw [ef]
    have eo : oneB ns f j = (decide (f.getD j 0 = 45) && decide ((bitsF ns f j).length = 1)) := rfl
    have at0 : (bitsF ns f j).length = 1 → atI ((bitsF ns f j).map D.int) 0 = some (.int (bitOf ns f j)) := fun q => by
      rw [(bitOf_bit ok hf hj q).2]
      exact atI_of (j := 0) rfl rfl
    simp only [turnF, C.b_told_alone_1, s_dash]
    rw [eo]
    generalize (List.range j).filter (oneB ns f) = L at *
    generalize f.getD j 0 = c at *
    by_cases c1 : c = 45
    · subst c1
      by_cases c2 : (bitsF ns f j).length = 1
      · have at0 := at0 c2
        have c3 : ((bitsF ns f j).length : Int) = 1 := by omega
        simp [b, i1, e1, c2, c3, at0, zl, p1, p2, szOk_of]
      · have c3 : ¬ ((bitsF ns f j).length : Int) = 1 := by omega
        have zb : szOk (bitsF ns f j).length = true := szOk_of (by have := bitsF_two ok hf hj; omega)
        simp [b, i1, e1, c2, c3, zb, szOk_of]
    · simp [b, i1, e1, c1, szOk_of]
  have rm : rngOk ns.length = true := rngOk_of (by omega) (by omega)
  have zm : szOk ns.length = true := szOk_of (by omega)
  have h : forL (tmName 3) C.b_told_alone_1 [3, 4] [] ((List.range ns.length).map fun j : Nat => D.int (j : Nat)) [some (dNet ns), some (dt f), some (.dik [] []), none, none] = _ := h
  simp only [C.g_told_alone, C.m_told_alone]
  generalize C.b_told_alone_1 = B at h ⊢
  simp [e_fnP, rm, zm, h, toldI]
theorem close_f {ns : List RuleT} {most : Nat} {f : List Nat} (ok : NetOk ns most) (hf : CaseOk ns.length f) : CaseOk ns.length (closeS ns f f (toldI ns f)) ∧ dash (closeS ns f f (toldI ns f)) + (toldI ns f).length = dash f :=
  closeS_ok ok hf hf ((List.filter_sublist).nodup List.nodup_range) fun k hk => by
    obtain ⟨h1, h2⟩ := told_mem.mp hk
    refine ⟨h1, h2, ?_⟩
    unfold oneB at h2
    rw [Bool.and_eq_true] at h2
    exact of_decide_eq_true h2.1
theorem zip_map2 {α β γ : Type} {f : α → β} {g : α → γ} : ∀ {xs : List α}, (xs.map f).zip (xs.map g) = xs.map fun x => (f x, g x)
  | [] => rfl
  | x :: xs => by simp [zip_map2 (xs := xs)]
end H

set_option Elab.async false
set_option linter.all false
set_option maxRecDepth 100000
namespace H
open PySem PySem.Spec PyProof.Rows L2 Y
def addS (L : List (List Int)) (t : List Int) : List (List Int) := if t ∈ L then L else L ++ [t]
structure InS (m : Nat) (L : List (List Int)) : Prop where
  nd : L.Nodup
  st : ∀ x ∈ L, IsSt m x
theorem nodup_len {α : Type} [DecidableEq α] : ∀ {A B : List α}, A.Nodup → (∀ x ∈ A, x ∈ B) → A.length ≤ B.length
  | [], B, _, _ => by simp
  | x :: A, B, h, s => by
    obtain ⟨h1, h2⟩ := List.nodup_cons.mp h
    have hx := s x (by simp)
    have ih := nodup_len (A := A) (B := B.erase x) h2 fun y hy => (List.mem_erase_of_ne fun z : y = x => h1 (by rw [← z]; exact hy)).mpr (s y (by simp [hy]))
    rw [List.length_erase_of_mem hx] at ih
    have : 0 < B.length := List.length_pos_of_mem hx
    rw [List.length_cons]
    omega
theorem InS.len {m : Nat} {L : List (List Int)} (h : InS m L) : L.length ≤ 2 ^ m := by
  have := nodup_len h.nd (B := stands m) fun x hx => mem_stands.mpr (h.st x hx)
  rwa [stands_len] at this
theorem InS.add {m : Nat} {L : List (List Int)} {t : List Int} (h : InS m L) (ht : IsSt m t) : InS m (addS L t) := by
  unfold addS
  by_cases c : t ∈ L
  · rwa [if_pos c]
  · rw [if_neg c]
    refine ⟨List.nodup_append.mpr ⟨h.nd, by simp, fun a ha b hb z => ?_⟩, fun x hx => ?_⟩
    · rw [List.mem_singleton] at hb
      exact c (by rw [← hb, ← z]; exact ha)
    · rcases List.mem_append.mp hx with hx | hx
      · exact h.st x hx
      · rw [List.mem_singleton] at hx
        rw [hx]; exact ht
end H

set_option Elab.async false
set_option linter.all false
set_option maxRecDepth 100000
namespace H
open PySem PySem.Spec PyProof.Rows L2 Y
end H

set_option Elab.async false
set_option linter.all false
set_option maxRecDepth 100000
namespace H
open PySem PySem.Spec PyProof.Rows L2 Y
def tOf (st : List Int) : List Nat := st.map fun b => 48 + b.toNat
theorem tOf_case {m : Nat} {st : List Int} (hs : IsSt m st) : CaseOk m (tOf st) := ⟨by simp [tOf, hs.len], fun c hc => by
  obtain ⟨b, hb, rfl⟩ := List.mem_map.mp hc
  have := hs.bit b hb
  omega⟩
theorem tOf_getD {m : Nat} {st : List Int} (hs : IsSt m st) {k : Nat} (hk : k < m) : (tOf st).getD k 0 = 48 + (st.getD k 0).toNat := by
  unfold tOf
  rw [List.getD_eq_getElem?_getD, List.getElem?_map, List.getD_eq_getElem?_getD, List.getElem?_eq_getElem (by rw [hs.len]; exact hk)]
  rfl
theorem law_text_ok {m : Nat} {st : List Int} (hs : IsSt m st) (hm : m ≤ 20) : C.g__law_text [ti st] = .ok (.fr (dt (tOf st))) := by
  have l := hs.len
  have q := comp_map (tm := tmName 1) (t := cYes) (e := C.e__law_text_1) (vs := [1]) (ws := []) (ρ := [some (ti st), none]) D.int (fun b => dt [48 + b.toNat]) st (fun b hb => by
    have sb := str_bit (hs.bit b hb)
    simp only [turnC, C.e__law_text_1]
    simp [sb])
  have j := join_dt (f := tOf st) (by rw [(tOf_case hs).len]; omega)
  have em : (tOf st).map (fun c => dt [c]) = st.map fun b => dt [48 + b.toNat] := by unfold tOf; rw [List.map_map]; rfl
  rw [em] at j
  have z : szOk (st.map D.int).length = true := szOk_of (by rw [List.length_map]; omega)
  simp only [C.g__law_text, C.m__law_text]
  generalize C.e__law_text_1 = B at q ⊢
  generalize (st.map fun b => dt [48 + b.toNat]) = L at j q
  generalize dt (tOf st) = T at *
  show fnP 1 2 _ [.tup (st.map D.int)] = _
  have q : cCompL (tmName 1) cYes B [1] [] (st.map D.int) [some (.tup (st.map D.int)), none] = R.ok (L, [some (.tup (st.map D.int)), none]) := q
  generalize st.map D.int = S at *
  simp [e_fnP, q, j, z]
end H

set_option Elab.async false
set_option linter.all false
set_option maxRecDepth 100000
namespace H
open PySem PySem.Spec PyProof.Rows L2 Y
theorem eqPs_map {α : Type} [DecidableEq α] {f : α → D} (hf : ∀ x y, eqP (f x) (f y) = decide (x = y)) : ∀ {xs ys : List α}, eqPs (xs.map f) (ys.map f) = decide (xs = ys)
  | [], [] => by simp [eqPs]
  | [], _ :: _ => by simp [eqPs]
  | _ :: _, [] => by simp [eqPs]
  | x :: xs, y :: ys => by
    have ih := eqPs_map hf (xs := xs) (ys := ys)
    simp only [List.map_cons, eqPs, hf, ih, List.cons.injEq]
    by_cases a : x = y <;> by_cases b : xs = ys <;> simp [a, b]
theorem eqP_ti {a b : List Int} : eqP (ti a) (ti b) = decide (a = b) := by rw [eqP_tup, eqPs_ints]
theorem eqP_lti {a b : List (List Int)} : eqP (lti a) (lti b) = decide (a = b) := by rw [eqP_lst, eqPs_map fun x y => eqP_ti]
end H

set_option Elab.async false
set_option linter.all false
set_option maxRecDepth 100000
namespace H
open PySem PySem.Spec PyProof.Rows L2 Y
@[simp] theorem e_dget {a b : EM} {ρ : Y.Env} : cDGet a b ρ = (a ρ >>= fun p => b p.2 >>= fun q => (p.1.d q.2).nox >>= fun x => (q.1.d q.2).nox >>= fun y => (getDic x y).nox >>= fun o => match o with | some z => R.ok (.vl z, q.2) | none => .stk) := id rfl
end H

set_option Elab.async false
set_option linter.all false
set_option maxRecDepth 100000
namespace H
open PySem PySem.Spec PyProof.Rows L2 Y
end H

set_option Elab.async false
set_option linter.all false
set_option maxRecDepth 100000
namespace H
open PySem PySem.Spec PyProof.Rows L2 Y
theorem drawn_stand_ok {n : Int} {m : Nat} (hm : m ≤ 20) : ∃ (st : List Int) (n' : Int), C.g__law_drawn_stand [.lst [.int n], .int m] = .ok (.fr (ti st), [some (.lst [.int n']), none]) ∧ IsSt m st := by
  obtain ⟨st, n2, e, hl, hb⟩ := comp_ex (tm := tmName 2) (t := cYes) (e := C.e__law_drawn_stand_1) (vs := [2]) (ws := []) (fun j : Nat => D.int (j : Nat)) D.int (fun b : Int => [some (.lst [.int b]), some (.int m), none]) (fun x => 0 ≤ x ∧ x < 2) (List.range m) n (fun b j hj => by
    have tk := take_ok (n := b) (m := 2) (by omega) (by omega)
    refine ⟨b % 2, b / 2, ?_, by omega, by simp⟩
    simp only [turnC, C.e__law_drawn_stand_1]
    simp [tk])
  rw [List.length_range] at hl
  have rM : rngOk m = true := rngOk_of (by omega) (by omega)
  have zM : szOk m = true := szOk_of (by omega)
  refine ⟨st, n2, ?_, hl, hb⟩
  simp only [C.g__law_drawn_stand, C.m__law_drawn_stand]
  generalize C.e__law_drawn_stand_1 = B at e ⊢
  simp [e_fnD, rM, zM, e]
end H

set_option Elab.async false
set_option linter.all false
set_option maxRecDepth 100000
namespace H
open PySem PySem.Spec PyProof.Rows L2 Y
end H

set_option Elab.async false
set_option linter.all false
set_option maxRecDepth 100000
namespace H
open PySem PySem.Spec PyProof.Rows L2 Y
end H

set_option Elab.async false
set_option linter.all false
set_option maxRecDepth 100000
namespace H
open PySem PySem.Spec PyProof.Rows L2 Y
def dH (p : Nat × Int) : D := .tup [.int (p.1 : Nat), .int p.2]
abbrev HD (hs : List (Nat × Int)) : D := .ftu (hs.map dH)
structure HoldsOk (n : Nat) (hs : List (Nat × Int)) : Prop where
  up : hs.Pairwise fun a b => a.1 < b.1
  lt : ∀ p ∈ hs, p.1 < n
  bit : ∀ p ∈ hs, 0 ≤ p.2 ∧ p.2 < 2
theorem up_len : ∀ {hs : List (Nat × Int)} {m n : Nat}, hs.Pairwise (fun a b => a.1 < b.1) → (∀ p ∈ hs, m ≤ p.1 ∧ p.1 < n) → hs.length ≤ n - m
  | [], _, _, _, _ => by simp
  | p :: hs, m, n, h, hb => by
    obtain ⟨h1, h2⟩ := List.pairwise_cons.mp h
    have ih := up_len (m := p.1 + 1) (n := n) h2 fun q hq => ⟨h1 q hq, (hb q (by simp [hq])).2⟩
    have := hb p (by simp)
    rw [List.length_cons]
    omega
theorem HoldsOk.len {n : Nat} {hs : List (Nat × Int)} (h : HoldsOk n hs) : hs.length ≤ n := by
  have := up_len (m := 0) h.up fun p hp => ⟨Nat.zero_le _, h.lt p hp⟩
  omega
def bitAt (hs : List (Nat × Int)) (k : Nat) : Option Int := (hs.find? fun p => p.1 == k).map (·.2)
theorem bitAt_snoc {hs : List (Nat × Int)} {p : Nat × Int} {k : Nat} : bitAt (hs ++ [p]) k = match bitAt hs k with | some b => some b | none => if p.1 = k then some p.2 else none := by
  unfold bitAt
  rw [List.find?_append]
  cases c : hs.find? fun p => p.1 == k with
  | some q => rfl
  | none =>
    have : [p].find? (fun p => p.1 == k) = if p.1 = k then some p else none := by
      by_cases e : p.1 = k
      · simp [e]
      · have e2 : (p.1 == k) = false := by simpa using e
        simp [List.find?, e2, e]
    rw [this]
    by_cases e : p.1 = k <;> simp [e]
theorem bitAt_none {hs : List (Nat × Int)} {k : Nat} (h : ∀ p ∈ hs, p.1 ≠ k) : bitAt hs k = none := by
  unfold bitAt
  rw [Option.map_eq_none_iff, List.find?_eq_none]
  intro p hp
  simpa using h p hp
theorem bitAt_bit {n : Nat} {hs : List (Nat × Int)} (h : HoldsOk n hs) {k : Nat} {b : Int} (e : bitAt hs k = some b) : 0 ≤ b ∧ b < 2 := by
  unfold bitAt at e
  obtain ⟨p, e1, e2⟩ := Option.map_eq_some_iff.mp e
  have := h.bit p (List.mem_of_find?_eq_some e1)
  rw [← e2]
  exact this
def hRule (ns : List RuleT) (hs : List (Nat × Int)) (k : Nat) : RuleT := match bitAt hs k with | some b => ([], [b]) | none => ns.getD k ([], [])
def heldL (ns : List RuleT) (hs : List (Nat × Int)) : List RuleT := (List.range ns.length).map (hRule ns hs)
theorem heldL_len {ns : List RuleT} {hs : List (Nat × Int)} : (heldL ns hs).length = ns.length := by simp [heldL]
theorem heldL_get {ns : List RuleT} {hs : List (Nat × Int)} {i : Nat} (h : i < (heldL ns hs).length) : (heldL ns hs)[i] = hRule ns hs i := by simp [heldL]
theorem heldL_nil {ns : List RuleT} : heldL ns [] = ns := by
  refine List.ext_getElem (by simp [heldL]) fun i h1 h2 => ?_
  rw [heldL_get]
  show ns.getD i ([], []) = _
  rw [List.getD_eq_getElem?_getD, List.getElem?_eq_getElem h2]
  rfl
theorem heldL_snoc {ns : List RuleT} {hs : List (Nat × Int)} {p : Nat × Int} (hn : ∀ q ∈ hs, q.1 < p.1) : (heldL ns hs).set p.1 ([], [p.2]) = heldL ns (hs ++ [p]) := by
  refine List.ext_getElem (by simp [heldL]) fun i h1 h2 => ?_
  rw [List.getElem_set, heldL_get, heldL_get]
  unfold hRule
  rw [bitAt_snoc]
  by_cases c : p.1 = i
  · subst c
    rw [if_pos rfl, bitAt_none fun q hq => Nat.ne_of_lt (hn q hq)]
    simp
  · rw [if_neg c]
    cases e : bitAt hs i with
    | some b => rfl
    | none => simp [c]
theorem held_net {ns : List RuleT} {hs : List (Nat × Int)} {most : Nat} (ok : NetOk ns most) (h : HoldsOk ns.length hs) : NetOk (heldL ns hs) most := by
  refine ⟨by rw [heldL_len]; exact ok.pos, by rw [heldL_len]; exact ok.le, fun r hr => ?_⟩
  rw [heldL_len]
  obtain ⟨k, hk, rfl⟩ := List.mem_map.mp hr
  have hk := List.mem_range.mp hk
  unfold hRule
  cases e : bitAt hs k with
  | none => exact ok.lk hk
  | some b =>
    have hb := bitAt_bit h e
    exact ⟨by simp, ⟨[], rfl, List.nil_sublist _⟩, by simp, fun x hx => by simp at hx; subst hx; exact hb⟩
theorem for_enumH {α : Type} {tm : GM} {body : SM} {vs ws : List Nat} (f : α → D) (xs : List α) (rho : Nat → Y.Env) (h : ∀ i (hi : i < xs.length), (∀ w ∈ ws, (rho (i + 1))[w]? = (rho i)[w]?) ∧ turnF tm body vs (.tup [.int (i : Nat), f xs[i]]) (rho i) = .ok (.nx, rho (i + 1))) :
    forL tm body vs ws (numD (xs.map f)) (rho 0) = .ok (.nx, rho xs.length) := by
  rw [numD_map]
  have lz : ((List.range xs.length).zip xs).length = xs.length := by rw [List.length_zip, List.length_range, Nat.min_self]
  have := for_idx (tm := tm) (body := body) (vs := vs) (ws := ws) (fun p : Nat × α => D.tup [.int (p.1 : Nat), f p.2]) ((List.range xs.length).zip xs) rho fun i hi => by
    have hi2 : i < xs.length := by rw [lz] at hi; exact hi
    rw [List.getElem_zip, List.getElem_range]
    exact h i hi2
  rw [lz] at this
  exact this
theorem prs_holds : ∀ {hs : List (Nat × Int)}, prsD (hs.map dH) = some (hs.map fun p => (.int (p.1 : Nat), .int p.2))
  | [] => rfl
  | p :: hs => by
    have ih := prs_holds (hs := hs)
    show (prsD (hs.map dH)).map _ = _
    rw [ih]
    rfl
theorem keys_holds : ∀ {hs : List (Nat × Int)}, keysOf (hs.map fun p => D.int (p.1 : Nat)) = some (hs.map fun p => (Sum.inl ((p.1 : Nat) : Int) : Key))
  | [] => rfl
  | p :: hs => by
    have ih := keys_holds (hs := hs)
    show (match keyOf (D.int (p.1 : Nat)) with | some k => (keysOf (hs.map fun q : Nat × Int => D.int (q.1 : Nat))).map (k :: ·) | none => none) = _
    rw [ih]
    rfl
theorem find_holds : ∀ {hs : List (Nat × Int)} {k : Nat}, findD (hs.map fun p => (Sum.inl ((p.1 : Nat) : Int) : Key)) (hs.map fun p => D.int p.2) (Sum.inl (k : Int)) = (bitAt hs k).map D.int
  | [], _ => rfl
  | p :: hs, k => by
    have ih := find_holds (hs := hs) (k := k)
    show (if (Sum.inl ((p.1 : Nat) : Int) : Key) = Sum.inl (k : Int) then some (D.int p.2) else findD (hs.map fun p => (Sum.inl ((p.1 : Nat) : Int) : Key)) (hs.map fun p => D.int p.2) (Sum.inl (k : Int))) = _
    rw [ih]
    unfold bitAt
    by_cases c : p.1 = k
    · simp [c]
    · have c2 : (p.1 == k) = false := by simpa using c
      have c3 : ¬ ((p.1 : Nat) : Int) = k := by omega
      simp [c3, List.find?_cons, c2]
theorem dict_holds {n : Nat} {hs : List (Nat × Int)} (h : HoldsOk n hs) : dictFD [HD hs] = .ok (.dik (hs.map fun p : Nat × Int => (Sum.inl ((p.1 : Nat) : Int) : Key)) (hs.map fun p => D.int p.2)) := by
  have nd : (hs.map fun p => (Sum.inl ((p.1 : Nat) : Int) : Key)).Nodup := List.pairwise_map.mpr (h.up.imp fun {a b} hab e => by
    have := Sum.inl.inj e
    omega)
  have e1 : (hs.map fun p : Nat × Int => ((D.int (p.1 : Nat), D.int p.2) : D × D)).map (·.1) = hs.map fun p => D.int (p.1 : Nat) := by rw [List.map_map]; rfl
  have e2 : (hs.map fun p : Nat × Int => ((D.int (p.1 : Nat), D.int p.2) : D × D)).map (·.2) = hs.map fun p => D.int p.2 := by rw [List.map_map]; rfl
  rw [d_dictF, prs_holds]
  dsimp only
  rw [e1, keys_holds]
  dsimp only
  rw [if_pos nd, e2]
theorem law_held_ok {ns : List RuleT} {hs : List (Nat × Int)} (h : HoldsOk ns.length hs) (hn : ns.length ≤ 1000) : C.g__law_held [dNet ns, HD hs] = .ok (.fr (dNet (heldL ns hs))) := by
  have dh := dict_holds h
  have gd : ∀ k : Nat, getDic (.dik (hs.map fun p : Nat × Int => (Sum.inl ((p.1 : Nat) : Int) : Key)) (hs.map fun p => D.int p.2)) (.int k) = .ok ((bitAt hs k).map D.int) := fun k => by
    show (match keyOf (D.int (k : Nat)) with | some k => R.ok (findD _ _ k) | none => .stk) = _
    show R.ok (findD _ _ (Sum.inl (k : Int))) = _
    rw [find_holds]
  generalize hB : D.dik (hs.map fun p : Nat × Int => (Sum.inl ((p.1 : Nat) : Int) : Key)) (hs.map fun p => D.int p.2) = BD at *
  have lp := for_enumH (tm := tmTup [4, 5]) (body := C.b__law_held_1) (vs := [4, 5]) (ws := []) dRule ns (fun i => [some (dNet ns), some (HD hs), some BD, some (.lst (((heldL ns hs).take i).map dRule)), none, none]) fun i hi => by
    refine ⟨by simp, ?_⟩
    have hi2 : i < (heldL ns hs).length := by rw [heldL_len]; exact hi
    have et : (heldL ns hs).take (i + 1) = (heldL ns hs).take i ++ [hRule ns hs i] := by rw [List.take_succ_eq_append_getElem hi2, heldL_get]
    rw [et, List.map_append]
    have zl : szOk (((heldL ns hs).take i).map dRule).length = true := szOk_of (by rw [List.length_map, List.length_take]; omega)
    have zl1 : szOk ((((heldL ns hs).take i).map dRule).length + 1) = true := szOk_of (by rw [List.length_map, List.length_take]; omega)
    have g := gd i
    have er : hRule ns hs i = match bitAt hs i with | some b => ([], [b]) | none => ns[i] := by
      unfold hRule
      have : ns.getD i ([], []) = ns[i] := by rw [List.getD_eq_getElem?_getD, List.getElem?_eq_getElem hi]; rfl
      rw [this]
    rw [er]
    generalize ((heldL ns hs).take i).map dRule = L at *
    generalize HD hs = HH at *
    generalize dNet ns = NN at *
    generalize ns[i] = r at *
    simp only [turnF, C.b__law_held_1]
    cases c : bitAt hs i with
    | none =>
      rw [c] at g
      have e1 : List.map dRule [r] = [dRule r] := rfl
      rw [e1]
      generalize dRule r = RD at *
      simp [g, zl1]
    | some b =>
      rw [c] at g
      have e1 : List.map dRule [(([], [b]) : RuleT)] = [.tup [.tup [], .tup [.int b]]] := rfl
      rw [e1]
      generalize dRule r = RD at *
      simp [g, zl1]
  have lp : forL (tmTup [4, 5]) C.b__law_held_1 [4, 5] [] (numD (ns.map dRule)) [some (dNet ns), some (HD hs), some BD, some (.lst []), none, none] = .ok (.nx, [some (dNet ns), some (HD hs), some BD, some (.lst (((heldL ns hs).take ns.length).map dRule)), none, none]) := lp
  rw [List.take_of_length_le (by rw [heldL_len]; exact Nat.le_refl _)] at lp
  have en : dNet ns = .tup (ns.map dRule) := rfl
  have ed : dNet (heldL ns hs) = .tup ((heldL ns hs).map dRule) := rfl
  rw [en] at lp
  rw [ed, en]
  have zn : szOk (numD (ns.map dRule)).length = true := szOk_of (by rw [numD_len, List.length_map]; omega)
  have it : itD (.tup (ns.map dRule)) = .ok (ns.map dRule) := rfl
  generalize hN : numD (ns.map dRule) = ND at *
  generalize HD hs = HH at *
  generalize (heldL ns hs).map dRule = LR at *
  simp only [C.g__law_held, C.m__law_held]
  generalize C.b__law_held_1 = B at *
  generalize ns.map dRule = NR at *
  simp [e_fnP, dh, it, hN, zn, lp, shAt, chkO_ws, -numD_len]
def hN (n : Int) (st : List Int) : Nat → List (Nat × Int) × Int
  | 0 => ([], n)
  | i + 1 => if (hN n st i).2 % 2 = 0 then ((hN n st i).1 ++ [(i, st.getD i 0)], (hN n st i).2 / 2) else ((hN n st i).1, (hN n st i).2 / 2)
end H

set_option Elab.async false
set_option linter.all false
set_option maxRecDepth 100000
namespace H
open PySem PySem.Spec PyProof.Rows L2 Y
end H

set_option Elab.async false
set_option linter.all false
set_option maxRecDepth 100000
set_option maxHeartbeats 2000000
namespace H
open PySem PySem.Spec PyProof.Rows L2 Y
def hldB (n : Int) : Int → List D → Bool
  | _, [] => true
  | last, .tup [.int a, .int b] :: ds => (decide (last < a) && decide (0 ≤ a ∧ a < n) && decide (0 ≤ b ∧ b < 2)) && hldB n a ds
  | _, _ :: _ => false
theorem holds_loop {N : List D} {XD : D} : ∀ {X : List D} {last : Int} {o3 : Option D}, (∀ d ∈ X, Nd 2 d) → -1 ≤ last → ∃ ρ', forL (tmName 3) C.b_are_holds_1 [3] [] X [some (.tup N), some XD, some (.int last), none] = .ok (if hldB N.length last X = true then .nx else .rt (.fr (.bl false)), ρ')
  | [], last, _, _, _ => ⟨_, rfl⟩
  | d :: X, last, o3, hX, hl => by
    have nd := hX d (by simp)
    have stop : turnF (tmName 3) C.b_are_holds_1 [3] d [some (.tup N), some XD, some (.int last), none] = .ok (.rt (.fr (.bl false)), [some (.tup N), some XD, some (.int last), some d]) → hldB N.length last (d :: X) = false → ∃ ρ', forL (tmName 3) C.b_are_holds_1 [3] [] (d :: X) [some (.tup N), some XD, some (.int last), none] = .ok (if hldB N.length last (d :: X) = true then .nx else .rt (.fr (.bl false)), ρ') := fun h e => by
      rw [e, if_neg Bool.false_ne_true]
      exact ⟨_, for_rt h⟩
    cases d with
    | dit _ _ => cases nd.1
    | ftu _ => cases nd.1
    | tab _ _ => cases nd.1
    | tup xs =>
      obtain ⟨_, hx⟩ := nd.tup
      match xs, hx with
      | [], _ => exact stop (by simp only [turnF, C.b_are_holds_1]; simp [noDit, Y.isTup, neD_int]) rfl
      | [x], _ => exact stop (by simp only [turnF, C.b_are_holds_1]; simp [noDit, Y.isTup, neD_int]) (by unfold hldB; simp)
      | x :: y :: z :: w, _ =>
        have ne3 : ¬ ((w.length : Int) + 1 + 1 + 1 = 2) := by omega
        exact stop (by simp only [turnF, C.b_are_holds_1]; simp [noDit, Y.isTup, neD_int, ne3]) (by simp [hldB])
      | [x, y], hx =>
        have n1 := hx x (by simp)
        have n2 := hx y (by simp)
        have u1 := upto_any (m := N.length) n1.no
        have u2 := upto_any (m := 2) n2.no
        have a0 : atI [x, y] 0 = some x := rfl
        have a1 : atI [x, y] 1 = some y := rfl
        have zn : szOk 2 = true := szOk_of (by omega)
        have n22 : neD (.int 2) (.int 2) = .ok (.bl false) := by rw [neD_int]; rfl
        cases c1 : upB N.length x with
        | false =>
          rw [c1] at u1
          refine stop (by simp only [turnF, C.b_are_holds_1]; simp [noDit, Y.isTup, n22, ixD, a0, u1]) ?_
          cases x with
          | int a =>
            have c1 : ¬ (0 ≤ a ∧ a < N.length) := by simpa [upB] using c1
            cases y <;> simp [hldB, c1]
          | _ => cases y <;> simp [hldB]
        | true =>
          rw [c1] at u1
          cases c2 : upB 2 y with
          | false =>
            rw [c2] at u2
            refine stop (by simp only [turnF, C.b_are_holds_1]; simp [noDit, Y.isTup, n22, ixD, a0, a1, u1, u2]) ?_
            cases y with
            | int b =>
              have c2 : ¬ (0 ≤ b ∧ b < 2) := by simpa [upB] using c2
              cases x <;> simp [hldB, c2]
            | _ => cases x <;> simp [hldB]
          | true =>
            rw [c2] at u2
            cases x with
            | int a =>
              cases y with
              | int b =>
                have c1' : 0 ≤ a ∧ a < N.length := by simpa [upB] using c1
                have c2' : 0 ≤ b ∧ b < 2 := by simpa [upB] using c2
                by_cases c3 : last < a
                · have e : hldB N.length last (.tup [.int a, .int b] :: X) = hldB N.length a X := by simp [hldB, c1', c2', c3]
                  obtain ⟨ρ', ih⟩ := holds_loop (N := N) (XD := XD) (X := X) (last := a) (o3 := none) (fun d hd => hX d (by simp [hd])) (by omega)
                  refine ⟨ρ', ?_⟩
                  rw [e]
                  refine for_cons ?_ (by simp) ih
                  have c4 : ¬ a ≤ last := by omega
                  simp only [turnF, C.b_are_holds_1]
                  simp [noDit, Y.isTup, n22, ixD, a0, a1, u1, u2, c4, -is_upto_int]
                · have c4 : a ≤ last := by omega
                  refine stop (by simp only [turnF, C.b_are_holds_1]; simp [noDit, Y.isTup, n22, ixD, a0, a1, u1, u2, c4, -is_upto_int]) ?_
                  simp [hldB, c3]
              | _ => cases c2
            | _ => cases c1
    | _ => exact stop (by simp only [turnF, C.b_are_holds_1]; simp [noDit, Y.isTup]) rfl
end H

set_option Elab.async false
set_option linter.all false
set_option maxRecDepth 100000
namespace H
open PySem PySem.Spec PyProof.Rows L2 Y
abbrev Sq (XD : D) (X : List D) : Prop := XD = .tup X ∨ XD = .ftu X
theorem sq_it {XD : D} {X : List D} (h : Sq XD X) : itD XD = .ok X := by rcases h with rfl | rfl <;> rfl
theorem are_holds_any {N : List D} {XD : D} {X : List D} (h : Sq XD X) (hX : ∀ d ∈ X, Nd 2 d) (hl : X.length ≤ 1000000) : C.g_are_holds [.tup N, XD] = .ok (.fr (.bl (hldB N.length (-1) X))) := by
  obtain ⟨ρ', lp⟩ := holds_loop (N := N) (XD := XD) (X := X) (last := -1) (o3 := none) hX (by omega)
  have zl : szOk X.length = true := szOk_of (by omega)
  simp only [C.g_are_holds, C.m_are_holds]
  generalize C.b_are_holds_1 = B at *
  generalize hldB N.length (-1) X = q at *
  rcases h with rfl | rfl <;> cases q <;> simp at lp <;> simp [e_fnP, noDit, Y.isTup, zl, lp]
theorem look_holds {N : List D} {d : D} {q : Bool} (h : C.g_are_holds [.tup N, d] = .ok (.fr (.bl q))) : C.g_look_at_holds [.tup N, d] = if q = true then .ok (.fr .non) else .er "NoHolds" [] := by
  simp only [C.g_look_at_holds, C.m_look_at_holds]
  cases q <;> simp [e_fnP, h]
theorem nd_dH {p : Nat × Int} : Nd 2 (dH p) := nd_tup (by simp) fun x hx => by
  simp only [List.mem_cons, List.not_mem_nil, or_false] at hx
  rcases hx with rfl | rfl <;> exact nd_int
theorem hldB_of {n : Nat} : ∀ {hs : List (Nat × Int)} {last : Int}, hs.Pairwise (fun a b => a.1 < b.1) → (∀ p ∈ hs, last < (p.1 : Nat) ∧ p.1 < n ∧ 0 ≤ p.2 ∧ p.2 < 2) → hldB n last (hs.map dH) = true
  | [], _, _, _ => rfl
  | p :: hs, last, h, hb => by
    obtain ⟨h1, h2⟩ := List.pairwise_cons.mp h
    have ih := hldB_of (n := n) (hs := hs) (last := (p.1 : Nat)) h2 fun q hq => ⟨by have := h1 q hq; omega, (hb q (by simp [hq])).2⟩
    have b := hb p (by simp)
    show ((decide (last < ((p.1 : Nat) : Int)) && decide (0 ≤ ((p.1 : Nat) : Int) ∧ ((p.1 : Nat) : Int) < (n : Int)) && decide (0 ≤ p.2 ∧ p.2 < 2)) && hldB n (p.1 : Nat) (hs.map dH)) = true
    rw [ih, decide_eq_true b.1, decide_eq_true ⟨by omega, by omega⟩, decide_eq_true b.2.2]
    rfl
theorem held_sq {ns : List RuleT} {hs : List (Nat × Int)} {XD : D} (hx : Sq XD (hs.map dH)) (h : HoldsOk ns.length hs) (hn : ns.length ≤ 1000) : C.g_held_net [dNet ns, XD] = .ok (.fr (dNet (heldL ns hs))) := by
  have hl := h.len
  have ah := are_holds_any (N := ns.map dRule) hx (fun d hd => by obtain ⟨p, _, rfl⟩ := List.mem_map.mp hd; exact nd_dH) (by rw [List.length_map]; omega)
  rw [List.length_map, hldB_of h.up fun p hp => ⟨by omega, h.lt p hp, h.bit p hp⟩] at ah
  have la := look_holds ah
  have la : C.g_look_at_holds [dNet ns, XD] = .ok (.fr .non) := la
  have iX := sq_it hx
  have lp := for_idx (tm := tmTup [3, 4]) (body := C.b_held_net_1) (vs := [3, 4]) (ws := []) dH hs (fun i => [some (dNet ns), some XD, some (.lst ((heldL ns (hs.take i)).map dRule)), none, none]) fun i hi => by
    refine ⟨by simp, ?_⟩
    have l2 := h.lt _ (List.getElem_mem hi)
    have et : hs.take (i + 1) = hs.take i ++ [hs[i]] := List.take_succ_eq_append_getElem hi
    rw [et, ← heldL_snoc (p := hs[i]) fun q hq => by
      obtain ⟨j, hj, rfl⟩ := List.getElem_of_mem hq
      rw [List.length_take] at hj
      rw [List.getElem_take]
      exact List.pairwise_iff_getElem.mp h.up j i (by omega) hi (by omega)]
    have ll : ((heldL ns (hs.take i)).map dRule).length = ns.length := by rw [List.length_map, heldL_len]
    have es : ((heldL ns (hs.take i)).set (hs[i]).1 ([], [(hs[i]).2])).map dRule = ((heldL ns (hs.take i)).map dRule).set (hs[i]).1 (.tup [.tup [], .tup [.int (hs[i]).2]]) := by rw [List.map_set]; rfl
    rw [es]
    unfold dH
    generalize (heldL ns (hs.take i)).map dRule = L at *
    generalize (hs[i]).1 = k at *
    generalize (hs[i]).2 = b at *
    have ix : ixN L.length (k : Nat) = some k := ixN_nat (by omega)
    generalize dNet ns = NN at *
    clear ah
    simp only [turnF, C.b_held_net_1]
    simp [ix]
  have lp : forL (tmTup [3, 4]) C.b_held_net_1 [3, 4] [] (hs.map dH) [some (dNet ns), some XD, some (.lst ((heldL ns (hs.take 0)).map dRule)), none, none] = .ok (.nx, [some (dNet ns), some XD, some (.lst ((heldL ns (hs.take hs.length)).map dRule)), none, none]) := lp
  rw [List.take_length, List.take_zero, heldL_nil] at lp
  have zl : szOk (hs.map dH).length = true := szOk_of (by rw [List.length_map]; omega)
  have ed : dNet (heldL ns hs) = .tup ((heldL ns hs).map dRule) := rfl
  have en : dNet ns = .tup (ns.map dRule) := rfl
  rw [en] at la lp
  rw [ed, en]
  simp only [C.g_held_net, C.m_held_net]
  generalize C.b_held_net_1 = B at *
  generalize (heldL ns hs).map dRule = LR at *
  generalize hs.map dH = HH at *
  generalize ns.map dRule = NR at *
  clear ah hx
  simp [e_fnP, la, iX, zl, lp, shAt, chkO_ws]
def frH (n : Nat) (hs : List (Nat × Int)) : List Nat := hs.foldl (fun f p => sign f p.1 (48 + p.2.toNat)) (List.replicate n 45)
theorem frH_snoc {n : Nat} {hs : List (Nat × Int)} {p : Nat × Int} : frH n (hs ++ [p]) = sign (frH n hs) p.1 (48 + p.2.toNat) := by
  unfold frH
  rw [List.foldl_append]
  rfl
theorem frH_ok {n : Nat} : ∀ {hs : List (Nat × Int)} {f : List Nat}, CaseOk n f → (∀ p ∈ hs, p.1 < n ∧ 0 ≤ p.2 ∧ p.2 < 2) → CaseOk n (hs.foldl (fun f p => sign f p.1 (48 + p.2.toNat)) f)
  | [], _, hf, _ => hf
  | p :: hs, f, hf, h => by
    have b := h p (by simp)
    exact frH_ok (f := sign f p.1 (48 + p.2.toNat)) (sign_ok hf b.1 (show 48 + p.2.toNat = 45 ∨ 48 + p.2.toNat = 48 ∨ 48 + p.2.toNat = 49 by omega)) fun q hq => h q (by simp [hq])
theorem rep_case {n : Nat} : CaseOk n (List.replicate n 45) := ⟨by simp, fun c hc => .inl (List.mem_replicate.mp hc).2⟩
theorem dash_mul {n : Nat} (hn : n ≤ 1000) : mulD (.str "-") (.int n) = .ok (dt (List.replicate n 45)) := by
  have e : (Str.ofString "-") = tx [45] := rfl
  show mulD (.str (Str.ofString "-")) (.int n) = _
  rw [e, d_mulS, if_pos, rep_tx]
  · rfl
  · have : (tx [45]).length = 1 := rfl
    refine ⟨by omega, by omega, ?_⟩
    rw [this]
    exact szOk_of (by omega)
theorem frame_of_ok {ns : List RuleT} {hs : List (Nat × Int)} {XD : D} (hx : Sq XD (hs.map dH)) (h : HoldsOk ns.length hs) (hn : ns.length ≤ 20) : C.g_frame_of [dNet ns, XD] = .ok (.vl (dt (frH ns.length hs))) ∧ CaseOk ns.length (frH ns.length hs) := by
  have hl := h.len
  have iX := sq_it hx
  have okT : ∀ i, CaseOk ns.length (frH ns.length (hs.take i)) := fun i => frH_ok rep_case fun p hp => ⟨h.lt p (List.mem_of_mem_take hp), h.bit p (List.mem_of_mem_take hp)⟩
  refine ⟨?_, by have := okT hs.length; rwa [List.take_length] at this⟩
  have lp := for_idx (tm := tmTup [3, 4]) (body := C.b_frame_of_1) (vs := [3, 4]) (ws := []) dH hs (fun i => [some (dNet ns), some XD, some (dt (frH ns.length (hs.take i))), none, none]) fun i hi => by
    refine ⟨by simp, ?_⟩
    have l2 := h.lt _ (List.getElem_mem hi)
    have l3 := h.bit _ (List.getElem_mem hi)
    have et : hs.take (i + 1) = hs.take i ++ [hs[i]] := List.take_succ_eq_append_getElem hi
    have w := (with_sign_ok (c := 48 + (hs[i]).2.toNat) (by omega) (okT i) l2).1
    rw [et, frH_snoc]
    have sb : strOfD [.int (hs[i]).2] = .ok (dt [48 + (hs[i]).2.toNat]) := str_bit l3
    unfold dH
    generalize frH ns.length (hs.take i) = f at *
    generalize sign f (hs[i]).1 (48 + (hs[i]).2.toNat) = g at *
    generalize (hs[i]).1 = k at *
    generalize (hs[i]).2 = b at *
    generalize dNet ns = N at *
    simp only [turnF, C.b_frame_of_1]
    simp [sb, w]
  have lp : forL (tmTup [3, 4]) C.b_frame_of_1 [3, 4] [] (hs.map dH) [some (dNet ns), some XD, some (dt (List.replicate ns.length 45)), none, none] = .ok (.nx, [some (dNet ns), some XD, some (dt (frH ns.length (hs.take hs.length))), none, none]) := lp
  rw [List.take_length] at lp
  have zl : szOk (hs.map dH).length = true := szOk_of (by rw [List.length_map]; omega)
  have ln : lenD [dNet ns] = .ok (.int ns.length) := by simp
  have dm := dash_mul (n := ns.length) (by omega)
  simp only [C.g_frame_of, C.m_frame_of]
  generalize C.b_frame_of_1 = B at *
  generalize hs.map dH = HH at *
  generalize dNet ns = N at *
  generalize dt (List.replicate ns.length 45) = F0 at *
  generalize dt (frH ns.length hs) = F1 at *
  clear hx okT
  simp [e_fnP, ln, dm, iX, zl, lp, -d_mulS]
theorem intsK_nat : ∀ {ks : List Nat}, intsK (ks.map fun k : Nat => (Sum.inl (k : Int) : Key)) = some (ks.map fun k : Nat => (k : Int))
  | [] => rfl
  | k :: ks => by
    have ih := intsK_nat (ks := ks)
    simp only [List.map_cons, intsK, ih]
    rfl
theorem sort_told {ns : List RuleT} {f : List Nat} {ks : List Nat} (h : ks.length < 64) : sortDD [toldD ns f ks] = .ok (.lst ((sortI (ks.map fun k : Nat => (k : Int))).map D.int)) := by
  show (match intsK (ks.map fun k : Nat => (Sum.inl (k : Int) : Key)) with | some ns => if ns.length < 64 then R.ok (D.lst ((sortI ns).map D.int)) else .stk | none => .stk) = _
  rw [intsK_nat]
  show (if (ks.map fun k : Nat => (k : Int)).length < 64 then _ else _) = _
  rw [if_pos (by rw [List.length_map]; exact h)]
theorem pour_items {ns : List RuleT} {most : Nat} {f : List Nat} (ok : NetOk ns most) (hm : most ≤ 20) (hf : CaseOk ns.length f) {r0 r1 r2 r4 r5 : Option D} : ∀ {ks : List Nat} {g : List Nat}, CaseOk ns.length g → (∀ k ∈ ks, k < ns.length ∧ oneB ns f k = true) →
    forL (tmTup [6, 7]) C.b_poured_1 [6, 7] [] (ks.map fun k : Nat => D.tup [.int (k : Nat), .int (bitOf ns f k)]) [r0, r1, r2, some (dt g), r4, r5, none, none] = .ok (.nx, [r0, r1, r2, some (dt (closeS ns f g ks)), r4, r5, none, none])
  | [], g, _, _ => rfl
  | k :: ks, g, hg, h => by
    obtain ⟨h1, h2⟩ := h k (by simp)
    have hb : (bitsF ns f k).length = 1 := by
      unfold oneB at h2
      rw [Bool.and_eq_true] at h2
      exact of_decide_eq_true h2.2
    obtain ⟨b1, _⟩ := bitOf_bit ok hf h1 hb
    have hc : sgOf ns f k = 48 ∨ sgOf ns f k = 49 := by unfold sgOf; omega
    have hs := sign_ok hg h1 (show sgOf ns f k = 45 ∨ sgOf ns f k = 48 ∨ sgOf ns f k = 49 by omega)
    have ih := pour_items ok hm hf (r0 := r0) (r1 := r1) (r2 := r2) (r4 := r4) (r5 := r5) (ks := ks) hs fun j hj => h j (by simp [hj])
    have le := ok.le
    have w := (with_sign_ok (m := ns.length) (c := sgOf ns f k) (by omega) hg h1).1
    have sb := str_bit b1
    rw [List.map_cons]
    have e : closeS ns f g (k :: ks) = closeS ns f (sign g k (sgOf ns f k)) ks := rfl
    rw [e]
    refine for_cons (by
      simp only [turnF, C.b_poured_1]
      have sb : strOfD [.int (bitOf ns f k)] = .ok (dt [sgOf ns f k]) := sb
      simp [sb, w]) (by simp) ih
end H

set_option Elab.async false
set_option linter.all false
set_option maxRecDepth 100000
set_option maxHeartbeats 2000000
namespace H
open PySem PySem.Spec PyProof.Rows L2 Y
abbrev Hs := List (Nat × Int)
def encH (h : Hs) : List (List Int) := h.map fun p => [(p.1 : Int), p.2]
abbrev HT (h : Hs) : D := .tup (h.map dH)
theorem encH_inj {a b : Hs} (h : encH a = encH b) : a = b := by
  unfold encH at h
  exact (List.map_inj_right fun x y e => by
    obtain ⟨x1, x2⟩ := x
    obtain ⟨y1, y2⟩ := y
    have e : [(x1 : Int), x2] = [(y1 : Int), y2] := e
    injection e with e1 e2
    injection e2 with e2 _
    have : x1 = y1 := by omega
    rw [this, e2]).mp h
theorem HD_enc (h : Hs) : HD h = hdD (encH h) := by
  unfold HD hdD encH
  rw [List.map_map]
  rfl
theorem py_HD (h : Hs) : toPy (HD h) = hdP (encH h) := by rw [HD_enc, toPy_hd]
theorem py_HT (h : Hs) : toPy (HT h) = hdP (encH h) := by rw [← py_HD]; rfl
def dl (a b : Hs) : Bool := PySem.W.dataLt (hdP (encH a)) (hdP (encH b))
theorem dl_eq (a b : Hs) : dl a b = PyProof.Rows.lexLt itemOrd (PySem.W.keyToks (hdP (encH a))) (PySem.W.keyToks (hdP (encH b))) := rfl
theorem eqv_tp {x y : List Int} : PyData.eqv (tpP x) (tpP y) = decide (x = y) := by
  have := eqP_ti (a := x) (b := y)
  unfold eqP at this
  have e : ∀ z : List Int, toPy (ti z) = tpP z := fun z => by
    show PyData.tuple (toPys (z.map D.int)) = _
    rw [toPys_int]; rfl
  rw [e, e] at this
  exact this
theorem dl_anti : ∀ {a b : Hs}, a.length = b.length → dl a b = false → dl b a = false → a = b := by
  intro a b
  unfold dl hdP
  rw [PySem.W.dataLt_tuple, PySem.W.dataLt_tuple]
  have key : ∀ (a b : List (List Int)), a.length = b.length → (∀ x ∈ a, x.length = 2) → (∀ x ∈ b, x.length = 2) → PyProof.Rows.lexLt itemOrd (PySem.W.keyToksAll (a.map tpP)) (PySem.W.keyToksAll (b.map tpP)) = false → PyProof.Rows.lexLt itemOrd (PySem.W.keyToksAll (b.map tpP)) (PySem.W.keyToksAll (a.map tpP)) = false → a = b := fun a => by
    induction a with
    | nil =>
      intro b h _ _ _ _
      exact (List.eq_nil_of_length_eq_zero h.symm).symm
    | cons x a ih =>
      intro b h ha hb h1 h2
      cases b with
      | nil => simp at h
      | cons y b =>
        have lx := ha x (by simp)
        have ly := hb y (by simp)
        have al : PySem.W.alike (tpP x) (tpP y) = true := by
          unfold tpP; rw [PySem.W.alike]; exact alike_int
        have al2 : PySem.W.alike (tpP y) (tpP x) = true := by
          unfold tpP; rw [PySem.W.alike]; exact alike_int
        rw [List.map_cons, List.map_cons] at h1 h2
        by_cases e : x = y
        · subst e
          have v1 : PyData.eqv (tpP x) (tpP x) = true := by rw [eqv_tp]; simp
          rw [PySem.W.dataLt_all_yes al v1] at h1 h2
          rw [ih b (by simpa using h) (fun z hz => ha z (by simp [hz])) (fun z hz => hb z (by simp [hz])) h1 h2]
        · have v1 : PyData.eqv (tpP x) (tpP y) = false := by rw [eqv_tp]; simpa using e
          have v2 : PyData.eqv (tpP y) (tpP x) = false := by rw [eqv_tp]; simpa using fun z => e z.symm
          rw [PySem.W.dataLt_all_no al v1, lt_tp (by rw [lx, ly])] at h1
          rw [PySem.W.dataLt_all_no al2 v2, lt_tp (by rw [lx, ly])] at h2
          exact absurd (ltL_eq h1 h2) e
  intro h h1 h2
  have e2 : ∀ (c : Hs), ∀ x ∈ encH c, x.length = 2 := fun c x hx => by
    obtain ⟨p, _, rfl⟩ := List.mem_map.mp hx
    rfl
  exact encH_inj (key (encH a) (encH b) (by simp [encH, h]) (e2 a) (e2 b) h1 h2)
theorem dl_irr (a : Hs) : dl a a = false := by rw [dl_eq]; exact lex_irrefl (O := itemOrd) _
theorem dl_neg {a b c : Hs} (h : dl a c = true) : dl a b = true ∨ dl b c = true := by
  rw [dl_eq] at *
  exact lex_negTrans (O := itemOrd) _ _ _ h
theorem dl_asym {a b : Hs} (h : dl a b = true) : dl b a = false := by
  cases e : dl b a with
  | false => rfl
  | true =>
    rw [dl_eq] at *
    have := lex_trans (O := itemOrd) _ _ _ h e
    rw [lex_irrefl (O := itemOrd)] at this
    cases this
def kl (a b : Hs) : Bool := PySem.W.dataLt (keyL (HT a)) (keyL (HT b))
theorem keyL_HT (h : Hs) : keyL (HT h) = .tuple [.int (h.length : Int), hdP (encH h)] := by
  unfold keyL
  rw [py_HT]
  simp
theorem kl_lt {a b : Hs} (h : a.length < b.length) : kl a b = true := by
  unfold kl
  rw [keyL_HT, keyL_HT, PySem.W.dataLt_pair (by simp [PySem.W.alike]) alike_hd]
  have v1 : PyData.eqv (.int (a.length : Int)) (.int (b.length : Int)) = false := by simp [PyData.eqv]; omega
  rw [v1, PySem.W.dataLt_int]
  simp; omega
theorem kl_eq {a b : Hs} (h : a.length = b.length) (h2 : kl a b = false) (hne : a ≠ b) : dl a b = false := by
  unfold kl at h2
  rw [keyL_HT, keyL_HT, PySem.W.dataLt_pair (by simp [PySem.W.alike]) alike_hd] at h2
  have v1 : PyData.eqv (.int (a.length : Int)) (.int (b.length : Int)) = true := by simp [PyData.eqv, h]
  rw [v1] at h2
  simp only [if_true] at h2
  cases e : dl a b with
  | false => rfl
  | true =>
    unfold dl at e
    by_cases q : PyData.eqv (hdP (encH a)) (hdP (encH b)) = true
    · exfalso
      refine hne (encH_inj ?_)
      have : eqP (lti (encH a)) (lti (encH b)) = PyData.eqv (hdP (encH a)) (hdP (encH b)) := by
        unfold eqP
        have e1 : ∀ z : List (List Int), toPy (lti z) = .list (z.map tpP) := fun z => by
          show PyData.list (toPys (z.map ti)) = _
          congr 1
          exact toPys_tp
        rw [e1, e1]
        unfold hdP
        simp [PyData.eqv]
      rw [eqP_lti, q] at this
      exact of_decide_eq_true this
    · rw [if_neg q, e] at h2
      cases h2
theorem kl_le {a b : Hs} (h : kl a b = false) : b.length ≤ a.length := by
  rcases Nat.lt_or_ge a.length b.length with q | q
  · rw [kl_lt q] at h; cases h
  · exact q
theorem kl_irr (a : Hs) : kl a a = false := lex_irrefl (O := itemOrd) _
theorem kl_neg {a b c : Hs} (h : kl a c = true) : kl a b = true ∨ kl b c = true := lex_negTrans (O := itemOrd) _ _ _ h
theorem kl_tot {a b : Hs} : (!kl b a || !kl a b) = true := by
  cases q : kl b a with
  | false => rfl
  | true =>
    cases q2 : kl a b with
    | false => rfl
    | true =>
      have := lex_trans (O := itemOrd) (PySem.W.keyToks (keyL (HT b))) (PySem.W.keyToks (keyL (HT a))) (PySem.W.keyToks (keyL (HT b))) q q2
      rw [lex_irrefl (O := itemOrd)] at this
      cases this
noncomputable def sortKL (L : List Hs) : List Hs := L.mergeSort fun a b => !kl b a
theorem sortKL_perm (L : List Hs) : (sortKL L).Perm L := List.mergeSort_perm _ _
theorem sortKL_pw (L : List Hs) : (sortKL L).Pairwise fun a b => kl b a = false := by
  have := List.pairwise_mergeSort (le := fun a b : Hs => !kl b a) (fun a b c h1 h2 => by
    simp only [Bool.not_eq_true'] at *
    cases q : kl c a with
    | false => rfl
    | true => rcases kl_neg (b := b) q with z | z <;> simp_all) (fun a b => kl_tot) L
  exact this.imp fun h => by simpa using h
def sortNL (L : List Hs) : List Hs := L.mergeSort fun a b => decide (a.length ≤ b.length)
theorem sortNL_perm (L : List Hs) : (sortNL L).Perm L := List.mergeSort_perm _ _
theorem sortNL_pw (L : List Hs) : (sortNL L).Pairwise fun a b => a.length ≤ b.length := by
  have := List.pairwise_mergeSort (le := fun a b : Hs => decide (a.length ≤ b.length)) (fun a b c h1 h2 => by simp at *; omega) (fun a b => by simp; omega) L
  exact this.imp fun h => by simpa using h
def minHs (n : Hs) (ns : List Hs) : Hs := ns.foldl (fun a y => if dl y a = true then y else a) n
theorem minHs_enc : ∀ {ns : List Hs} {n : Hs}, minH (encH n) (ns.map encH) = encH (minHs n ns)
  | [], n => rfl
  | y :: ns, n => by
    show minH (if PySem.W.dataLt (hdP (encH y)) (hdP (encH n)) = true then encH y else encH n) (ns.map encH) = encH (minHs (if dl y n = true then y else n) ns)
    have ed : PySem.W.dataLt (hdP (encH y)) (hdP (encH n)) = dl y n := rfl
    rw [ed]
    by_cases c : dl y n = true
    · rw [if_pos c, if_pos c]; exact minHs_enc
    · rw [if_neg c, if_neg c]; exact minHs_enc
theorem minHs_least : ∀ {ns : List Hs} {n : Hs}, minHs n ns ∈ n :: ns ∧ ∀ y ∈ n :: ns, dl y (minHs n ns) = false
  | [], n => ⟨by simp [minHs], fun y hy => by rw [List.mem_singleton.mp hy]; exact dl_irr n⟩
  | y :: ns, n => by
    show minHs (if dl y n = true then y else n) ns ∈ _ ∧ ∀ z ∈ _, dl z (minHs (if dl y n = true then y else n) ns) = false
    by_cases c : dl y n = true
    · rw [if_pos c]
      obtain ⟨h1, h2⟩ := minHs_least (ns := ns) (n := y)
      refine ⟨List.mem_cons_of_mem _ h1, fun z hz => ?_⟩
      rcases List.mem_cons.mp hz with rfl | hz
      · cases e : dl z (minHs y ns) with
        | false => rfl
        | true =>
          rcases dl_neg (b := y) e with q | q
          · rw [dl_asym c] at q; cases q
          · rw [h2 y (by simp)] at q; cases q
      · exact h2 z hz
    · rw [if_neg c]
      obtain ⟨h1, h2⟩ := minHs_least (ns := ns) (n := n)
      refine ⟨?_, fun z hz => ?_⟩
      · rcases List.mem_cons.mp h1 with e | e
        · rw [e]; simp
        · simp [e]
      · rcases List.mem_cons.mp hz with rfl | hz
        · exact h2 z (by simp)
        · rcases List.mem_cons.mp hz with rfl | hz
          · cases e : dl z (minHs n ns) with
            | false => rfl
            | true =>
              rcases dl_neg (b := n) e with q | q
              · exact absurd q c
              · rw [h2 n (by simp)] at q; cases q
          · exact h2 z (by simp [hz])
/-- the first in the one order is the least of the shortest in the other -/
theorem first_least {L : List Hs} {good : Hs → Bool} {f : Hs} (hf : (sortKL L).find? good = some f) : ∃ g0 gs c0 cs, (sortNL L).filter good = g0 :: gs ∧ (g0 :: gs).filter (fun h => decide (h.length = g0.length)) = c0 :: cs ∧ minHs c0 cs = f := by
  have hfg : good f = true := List.find?_some hf
  have hfm : f ∈ L := (sortKL_perm L).mem_iff.mp (List.mem_of_find?_eq_some hf)
  have least : ∀ h ∈ L, good h = true → kl h f = false := fun h hh hg => by
    obtain ⟨_, as, bs, e, hn⟩ := List.find?_eq_some_iff_append.mp hf
    have hm : h ∈ sortKL L := (sortKL_perm L).mem_iff.mpr hh
    have pw := sortKL_pw L
    rw [e] at hm pw
    rcases List.mem_append.mp hm with q | q
    · have := hn h q
      rw [hg] at this
      cases this
    · rcases List.mem_cons.mp q with rfl | q
      · exact kl_irr h
      · exact List.rel_of_pairwise_cons (List.pairwise_append.mp pw).2.1 q
  have f2 : f ∈ (sortNL L).filter good := List.mem_filter.mpr ⟨(sortNL_perm L).mem_iff.mpr hfm, hfg⟩
  cases e : (sortNL L).filter good with
  | nil => rw [e] at f2; cases f2
  | cons g0 gs =>
    have gm : ∀ h ∈ g0 :: gs, h ∈ L ∧ good h = true := fun h hh => by
      rw [← e] at hh
      obtain ⟨h1, h2⟩ := List.mem_filter.mp hh
      exact ⟨(sortNL_perm L).mem_iff.mp h1, h2⟩
    have pw2 : (g0 :: gs).Pairwise fun a b => a.length ≤ b.length := by rw [← e]; exact (sortNL_pw L).sublist List.filter_sublist
    rw [e] at f2
    have l1 : g0.length ≤ f.length := by
      rcases List.mem_cons.mp f2 with rfl | q
      · exact Nat.le_refl _
      · exact List.rel_of_pairwise_cons pw2 q
    have l2 : f.length ≤ g0.length := kl_le (least g0 (gm g0 (by simp)).1 (gm g0 (by simp)).2)
    have f3 : f ∈ (g0 :: gs).filter (fun h => decide (h.length = g0.length)) := List.mem_filter.mpr ⟨f2, by simp; omega⟩
    cases e2 : (g0 :: gs).filter (fun h => decide (h.length = g0.length)) with
    | nil => rw [e2] at f3; cases f3
    | cons c0 cs =>
      refine ⟨g0, gs, c0, cs, rfl, e2, ?_⟩
      obtain ⟨m1, m2⟩ := minHs_least (ns := cs) (n := c0)
      rw [e2] at f3
      have n1 := m2 f f3
      rw [← e2] at m1
      obtain ⟨d1, d2⟩ := List.mem_filter.mp m1
      have d2 := of_decide_eq_true d2
      obtain ⟨d3, d4⟩ := gm _ d1
      have n2 := least _ d3 d4
      refine Classical.byContradiction fun ne => ne ?_
      have n3 := kl_eq (by omega) n2 ne
      exact dl_anti (by omega) n3 n1
end H

set_option Elab.async false
set_option linter.all false
set_option maxRecDepth 100000
namespace H
open PySem PySem.Spec PyProof.Rows L2 Y
end H

set_option Elab.async false
set_option linter.all false
set_option maxRecDepth 100000
set_option maxHeartbeats 2000000
namespace H
open PySem PySem.Spec PyProof.Rows L2 Y
abbrev qC : Str := Str.ofString "choices.<locals>.<lambda>"
def allH (st : List Int) : Nat → List Hs
  | 0 => [[]]
  | k + 1 => allH st k ++ (allH st k).map fun h => h ++ [(k, st.getD k 0)]
theorem allH_len (st : List Int) : ∀ k, (allH st k).length = 2 ^ k
  | 0 => rfl
  | k + 1 => by simp [allH, allH_len st k, Nat.pow_succ]; omega
theorem allH_ok {m : Nat} {st : List Int} (hs : IsSt m st) : ∀ {k : Nat} {h : Hs}, h ∈ allH st k → HoldsOk k h ∧ ∀ p ∈ h, p.2 = st.getD p.1 0
  | 0, h, hm => by
    have : h = [] := by simpa [allH] using hm
    subst this
    exact ⟨⟨List.Pairwise.nil, by simp, by simp⟩, by simp⟩
  | k + 1, h, hm => by
    rcases List.mem_append.mp hm with q | q
    · obtain ⟨a, b⟩ := allH_ok hs q
      exact ⟨⟨a.up, fun p hp => Nat.lt_succ_of_lt (a.lt p hp), a.bit⟩, b⟩
    · obtain ⟨g, hg, rfl⟩ := List.mem_map.mp q
      obtain ⟨a, b⟩ := allH_ok hs hg
      refine ⟨⟨List.pairwise_append.mpr ⟨a.up, by simp, fun p hp q hq => ?_⟩, fun p hp => ?_, fun p hp => ?_⟩, fun p hp => ?_⟩
      · rw [List.mem_singleton.mp hq]; exact a.lt p hp
      · rcases List.mem_append.mp hp with hp | hp
        · exact Nat.lt_succ_of_lt (a.lt p hp)
        · rw [List.mem_singleton.mp hp]; exact Nat.lt_succ_self k
      · rcases List.mem_append.mp hp with hp | hp
        · exact a.bit p hp
        · rw [List.mem_singleton.mp hp]; exact hs.get k
      · rcases List.mem_append.mp hp with hp | hp
        · exact b p hp
        · rw [List.mem_singleton.mp hp]
def fullH (st : List Int) (k : Nat) : Hs := (List.range k).map fun j => (j, st.getD j 0)
theorem full_mem (st : List Int) : ∀ k, fullH st k ∈ allH st k
  | 0 => by simp [fullH, allH]
  | k + 1 => List.mem_append_right _ (List.mem_map.mpr ⟨fullH st k, full_mem st k, by simp [fullH, List.range_succ]⟩)
theorem noL_ints : ∀ x : List Int, noLs (x.map PyData.int) = true
  | [] => rfl
  | i :: x => by rw [List.map_cons, noLs, noL_ints]; rfl
theorem noL_tps : ∀ x : List (List Int), noLs (x.map tpP) = true
  | [] => rfl
  | i :: x => by
    rw [List.map_cons, noLs, noL_tps]
    unfold tpP
    rw [noL, noL_ints]
    rfl
theorem sortLen_HT (L : List Hs) : sortLenD (.lst (L.map HT)) = .ok (.lst ((sortKL L).map HT)) := by
  have ok : lensOk (L.map HT) = true := by
    unfold lensOk
    rw [List.all_eq_true]
    intro d hd
    obtain ⟨h, _, rfl⟩ := List.mem_map.mp hd
    rw [py_HT, lay_hd]
    have n1 : noL (hdP (encH h)) = true := by unfold hdP; rw [noL]; exact noL_tps _
    have d1 := depth_hd (h := encH h)
    rw [n1, decide_eq_true (show (hdP (encH h)).depth ≤ 50 by omega)]
    have : ((L.map HT).all fun b => PySem.W.alike (hdP (encH h)) (toPy b)) = true := List.all_eq_true.mpr fun b hb => by
      obtain ⟨g, _, rfl⟩ := List.mem_map.mp hb
      rw [py_HT]
      exact alike_hd
    rw [this]
    rfl
  show (if lensOk (L.map HT) = true then R.ok (D.lst ((L.map HT).mergeSort leLen)) else .stk) = _
  rw [if_pos ok]
  have e : (L.map HT).mergeSort leLen = (L.mergeSort fun a b => leLen (HT a) (HT b)).map HT := (List.map_mergeSort (r := fun a b => leLen (HT a) (HT b)) (s := leLen) (f := HT) (l := L) (fun a _ b _ => rfl)).symm
  have e2 : (fun a b : Hs => leLen (HT a) (HT b)) = fun a b => !kl b a := by
    funext a b
    unfold leLen
    rw [PySem.W.dataLe_eq]
    rfl
  rw [e, e2]
  rfl
theorem sortN_HD (L : List Hs) : sortND (.lst (L.map HD)) = .ok (.lst ((sortNL L).map HD)) := by
  have ok : (L.map HD).all isTF = true := List.all_eq_true.mpr fun d hd => by
    obtain ⟨h, _, rfl⟩ := List.mem_map.mp hd
    rfl
  show (if (L.map HD).all isTF = true then R.ok (D.lst ((L.map HD).mergeSort leN)) else .stk) = _
  rw [if_pos ok]
  have e : (L.map HD).mergeSort leN = (L.mergeSort fun a b => leN (HD a) (HD b)).map HD := (List.map_mergeSort (r := fun a b => leN (HD a) (HD b)) (s := leN) (f := HD) (l := L) (fun a _ b _ => rfl)).symm
  have e2 : (fun a b : Hs => leN (HD a) (HD b)) = fun a b => decide (a.length ≤ b.length) := by
    funext a b
    unfold leN
    rw [PySem.W.dataLe_int]
    simp only [lenT, List.length_map]
    exact decide_eq_decide.mpr (by omega)
  rw [e, e2]
  rfl
theorem numD_st {m : Nat} {st : List Int} (hs : IsSt m st) : numD (st.map D.int) = (List.range m).map fun k : Nat => dH (k, st.getD k 0) := by
  rw [numD_map, hs.len]
  refine List.ext_getElem (by simp [hs.len]) fun i h1 h2 => ?_
  have hi : i < st.length := by simp at h2; rw [hs.len]; exact h2
  simp only [List.getElem_map, List.getElem_zip, List.getElem_range]
  unfold dH
  rw [List.getD_eq_getElem?_getD, List.getElem?_eq_getElem hi]
  rfl
theorem choices_ok {m : Nat} {st : List Int} {TP : Addr} (hs : IsSt m st) (hm : m ≤ 8) : C.g_choices TP [ti st, .tab TP qC] = .ok (.fr (.lst ((sortKL (allH st m)).map HT)), [none, some (.tab TP qC)]) := by
  have p8 : ∀ k, k ≤ 8 → 2 ^ k ≤ 256 := fun k hk => Nat.le_trans (Nat.pow_le_pow_right (by omega) hk) (by decide)
  have h := for_rng (tm := tmName 3) (body := C.b_choices_1 TP) (vs := [3]) (ws := []) (n := m) (fun k : Nat => dH (k, st.getD k 0)) (fun k => [some (ti st), some (.tab TP qC), some (.lst ((allH st k).map HT)), none, none]) (fun k hk => by
    refine ⟨by simp, ?_⟩
    have l := p8 k (by omega)
    have al := allH_len st k
    have c1 : cCompL (tmName 4) cYes (C.e_choices_1 TP) [4] [] ((allH st k).map HT) [some (ti st), some (.tab TP qC), some (.lst ((allH st k).map HT)), some (dH (k, st.getD k 0)), none] = .ok ((allH st k).map (fun h => HT (h ++ [(k, st.getD k 0)])), _) := comp_map HT _ _ fun h hh => by
      have := (allH_ok hs hh).1.len
      have z : szOk (h.length + 1) = true := szOk_of (by omega)
      have e : HT (h ++ [(k, st.getD k 0)]) = .tup (h.map dH ++ [dH (k, st.getD k 0)]) := by simp
      rw [e]
      generalize dH (k, st.getD k 0) = p
      simp only [turnC, C.e_choices_1]
      simp [z, szOk_of]
    have z1 : szOk (allH st k).length = true := szOk_of (by omega)
    have z2 : szOk ((allH st k).length + (allH st k).length) = true := szOk_of (by omega)
    have en : (allH st k).map HT ++ (allH st k).map (fun h => HT (h ++ [(k, st.getD k 0)])) = (allH st (k + 1)).map HT := by
      simp only [allH, List.map_append, List.map_map]; rfl
    simp only [turnF, C.b_choices_1]
    generalize C.e_choices_1 TP = B1 at c1 ⊢
    generalize (allH st k).map (fun h => HT (h ++ [(k, st.getD k 0)])) = L2 at c1 en
    generalize dH (k, st.getD k 0) = pp at c1 ⊢
    generalize hL : (allH st k).map HT = L1 at c1 en ⊢
    have zl : szOk L1.length = true := by rw [← hL, List.length_map]; exact z1
    have l2 : L2.length = (allH st k).length := by
      have := congrArg List.length en
      rw [List.length_append, ← hL, List.length_map, List.length_map, allH_len, allH_len, Nat.pow_succ] at this
      rw [allH_len]
      omega
    have zl2 : szOk (L1.length + L2.length) = true := by rw [← hL, List.length_map, l2]; exact z2
    simp [itD, c1, zl, zl2, en])
  have n1 := numD_st hs
  have it : itD (ti st) = .ok (st.map D.int) := rfl
  have zm : szOk ((List.range m).map fun k : Nat => dH (k, st.getD k 0)).length = true := szOk_of (by simp; omega)
  have zs : szOk st.length = true := szOk_of (by rw [hs.len]; omega)
  have e0 : D.lst ((allH st 0).map HT) = .lst [.tup []] := rfl
  rw [e0] at h
  have so := sortLen_HT (allH st m)
  have ht : hasT 1 TP qC [some (ti st), some (.tab TP qC), some (.lst ((allH st m).map HT)), none, none] = .ok () := hasT_ok rfl
  simp only [C.g_choices, C.m_choices]
  generalize C.b_choices_1 TP = B at h ⊢
  generalize D.lst ((allH st m).map HT) = L at *
  generalize (List.range m).map (fun k : Nat => dH (k, st.getD k 0)) = N at *
  simp [e_fnD, it, n1, zm, zs, h, szOk_of, ht, so]
theorem all_holds_ok {m : Nat} {st : List Int} (hs : IsSt m st) (hm : m ≤ 8) : C.g__law_all_holds [ti st] = .ok (.fr (.lst ((sortNL (allH st m)).map HD))) := by
  have p8 : ∀ k, k ≤ 8 → 2 ^ k ≤ 256 := fun k hk => Nat.le_trans (Nat.pow_le_pow_right (by omega) hk) (by decide)
  have h := for_rng (tm := tmTup [2, 3]) (body := C.b__law_all_holds_1) (vs := [2, 3]) (ws := []) (n := m) (fun k : Nat => dH (k, st.getD k 0)) (fun k => [some (ti st), some (.lst ((allH st k).map HD)), none, none, none]) (fun k hk => by
    refine ⟨by simp, ?_⟩
    have l := p8 k (by omega)
    have al := allH_len st k
    have c1 : cCompL (tmName 4) cYes C.e__law_all_holds_1 [4] [] ((allH st k).map HD) [some (ti st), some (.lst ((allH st k).map HD)), some (.int (k : Nat)), some (.int (st.getD k 0)), none] = .ok ((allH st k).map (fun h => HD (h ++ [(k, st.getD k 0)])), _) := comp_map HD _ _ fun h hh => by
      have := (allH_ok hs hh).1.len
      have z : szOk (h.length + 1) = true := szOk_of (by omega)
      have e : HD (h ++ [(k, st.getD k 0)]) = .ftu (h.map dH ++ [.tup [.int (k : Nat), .int (st.getD k 0)]]) := by simp [dH]
      have eh : HD h = D.ftu (h.map dH) := rfl
      rw [e, eh]
      generalize st.getD k 0 = v
      generalize hX : h.map dH = X
      have lx : X.length = h.length := by rw [← hX, List.length_map]
      rw [← lx] at z
      simp only [turnC, C.e__law_all_holds_1]
      cases X with
      | nil => simp [szOk_of]
      | cons a b => simp at z; simp [z, szOk_of]
    have z1 : szOk (allH st k).length = true := szOk_of (by omega)
    have z2 : szOk ((allH st k).length + (allH st k).length) = true := szOk_of (by omega)
    have en : (allH st k).map HD ++ (allH st k).map (fun h => HD (h ++ [(k, st.getD k 0)])) = (allH st (k + 1)).map HD := by
      simp only [allH, List.map_append, List.map_map]; rfl
    have dh : dH (k, st.getD k 0) = .tup [.int (k : Nat), .int (st.getD k 0)] := rfl
    rw [dh]
    simp only [turnF, C.b__law_all_holds_1]
    generalize C.e__law_all_holds_1 = B1 at c1 ⊢
    generalize (allH st k).map (fun h => HD (h ++ [(k, st.getD k 0)])) = L2 at c1 en
    generalize st.getD k 0 = v at c1 ⊢
    generalize hL : (allH st k).map HD = L1 at c1 en ⊢
    have zl : szOk L1.length = true := by rw [← hL, List.length_map]; exact z1
    have l2 : L2.length = (allH st k).length := by
      have := congrArg List.length en
      rw [List.length_append, ← hL, List.length_map, List.length_map, allH_len, allH_len, Nat.pow_succ] at this
      rw [allH_len]
      omega
    have zl2 : szOk (L1.length + L2.length) = true := by rw [← hL, List.length_map, l2]; exact z2
    simp [itD, c1, zl, zl2, en])
  have n1 := numD_st hs
  have it : itD (ti st) = .ok (st.map D.int) := rfl
  have zm : szOk ((List.range m).map fun k : Nat => dH (k, st.getD k 0)).length = true := szOk_of (by simp; omega)
  have zs : szOk st.length = true := szOk_of (by rw [hs.len]; omega)
  have e0 : D.lst ((allH st 0).map HD) = .lst [.ftu []] := rfl
  rw [e0] at h
  have so := sortN_HD (allH st m)
  simp only [C.g__law_all_holds, C.m__law_all_holds]
  generalize C.b__law_all_holds_1 = B at h ⊢
  generalize D.lst ((allH st m).map HD) = L at *
  generalize (List.range m).map (fun k : Nat => dH (k, st.getD k 0)) = N at *
  simp [e_fnP, it, n1, zm, zs, h, szOk_of, so]
end H

set_option Elab.async false
set_option linter.all false
set_option maxRecDepth 100000
set_option maxHeartbeats 2000000
namespace H
open PySem PySem.Spec PyProof.Rows L2 Y
end H

set_option Elab.async false
set_option linter.all false
set_option maxRecDepth 100000
set_option maxHeartbeats 4000000
namespace H
open PySem PySem.Spec PyProof.Rows L2 Y
theorem ne_HTD (f : Hs) : neD (HT f) (HD f) = .ok (.bl false) := by
  have fp : ∀ p ∈ f.map dH, Fit 1 p := fun d hd => by
    obtain ⟨p, _, rfl⟩ := List.mem_map.mp hd
    intro x hx
    simp at hx
    rcases hx with rfl | rfl <;> trivial
  have f1 : Fit 2 (HT f) := fp
  have f2 : Fit 2 (HD f) := fp
  rw [neD_of f1 f2]
  have : eqP (HT f) (HD f) = eqP (HD f) (HD f) := by unfold eqP; rw [py_HT, py_HD]
  rw [this, eqP_refl f2]
  rfl
theorem bitsB_len {m : Nat} {st : List Int} (h : st.length ≠ m) : bitsB m (ti st) = false := by
  simp only [bitsB, List.length_map]
  have : decide (st.length = m) = false := by simpa using h
  simp [this, h]
  intro e
  exact absurd (by omega) h
end H

set_option Elab.async false
set_option linter.all false
set_option maxRecDepth 100000
set_option maxHeartbeats 2000000
namespace H
open PySem PySem.Spec PyProof.Rows L2 Y
end H

set_option Elab.async false
set_option linter.all false
set_option maxRecDepth 100000
set_option maxHeartbeats 2000000
namespace H
open PySem PySem.Spec PyProof.Rows L2 Y
end H

set_option Elab.async false
set_option linter.all false
set_option maxRecDepth 100000
set_option maxHeartbeats 2000000
namespace H
open PySem PySem.Spec PyProof.Rows L2 Y
def bitsC (c : Nat) : List Int := if c = 45 then [0, 1] else [(c : Int) - 48]
def stepW (L : List Int) (c : Nat) : List Int := L.flatMap fun p => (bitsC c).map fun b => 2 * p + b
def placesW (cs : List Nat) : List Int := cs.foldl stepW [0]
theorem mem_stepW {L : List Int} {c : Nat} {q : Int} : q ∈ stepW L c ↔ q ∈ stepP L c := by
  unfold stepW stepP bitsC
  rw [List.mem_flatMap]
  by_cases e : c = 45
  · rw [if_pos e, if_pos e, List.mem_append, List.mem_map, List.mem_map]
    constructor
    · rintro ⟨p, hp, h⟩
      simp at h
      rcases h with rfl | rfl
      · exact .inl ⟨p, hp, by omega⟩
      · exact .inr ⟨p, hp, rfl⟩
    · rintro (⟨p, hp, rfl⟩ | ⟨p, hp, rfl⟩)
      · exact ⟨p, hp, by simp⟩
      · exact ⟨p, hp, by simp⟩
  · rw [if_neg e, if_neg e, List.mem_map]
    constructor
    · rintro ⟨p, hp, h⟩
      simp at h
      exact ⟨p, hp, by omega⟩
    · rintro ⟨p, hp, rfl⟩
      exact ⟨p, hp, by simp⟩
theorem stepP_congr {A B : List Int} {c : Nat} (h : ∀ q, q ∈ A ↔ q ∈ B) (q : Int) : q ∈ stepP A c ↔ q ∈ stepP B c := by
  rw [← mem_stepW, ← mem_stepW]
  unfold stepW
  rw [List.mem_flatMap, List.mem_flatMap]
  exact ⟨fun ⟨p, hp, z⟩ => ⟨p, (h p).mp hp, z⟩, fun ⟨p, hp, z⟩ => ⟨p, (h p).mpr hp, z⟩⟩
theorem fold_places : ∀ {cs : List Nat} {A B : List Int}, (∀ q, q ∈ A ↔ q ∈ B) → ∀ q, q ∈ cs.foldl stepW A ↔ q ∈ cs.foldl stepP B
  | [], _, _, h, q => h q
  | c :: cs, A, B, h, q => fold_places (cs := cs) (A := stepW A c) (B := stepP B c) (fun q => mem_stepW.trans (stepP_congr h q)) q
theorem mem_placesW {cs : List Nat} (q : Int) : q ∈ placesW cs ↔ q ∈ placesI cs := fold_places (fun _ => Iff.rfl) q
theorem bitsC_len {c : Nat} : (bitsC c).length ≤ 2 := by unfold bitsC; split <;> simp
theorem flatW_len {c : Nat} : ∀ {L : List Int}, (stepW L c).length ≤ 2 * L.length
  | [] => by simp [stepW]
  | p :: L => by
    have ih := flatW_len (c := c) (L := L)
    have e : stepW (p :: L) c = ((bitsC c).map fun b => 2 * p + b) ++ stepW L c := rfl
    have := bitsC_len (c := c)
    rw [e, List.length_append, List.length_map, List.length_cons]
    omega
theorem placesW_len {cs : List Nat} : (placesW cs).length ≤ 2 ^ cs.length := by
  have : ∀ (cs : List Nat) (A : List Int), (cs.foldl stepW A).length ≤ A.length * 2 ^ cs.length := fun cs => by
    induction cs with
    | nil => intro A; simp
    | cons c cs ih =>
      intro A
      have h := ih (stepW A c)
      have h2 := flatW_len (c := c) (L := A)
      rw [List.length_cons, Nat.pow_succ]
      show (cs.foldl stepW (stepW A c)).length ≤ _
      refine Nat.le_trans h ?_
      calc (stepW A c).length * 2 ^ cs.length ≤ (2 * A.length) * 2 ^ cs.length := Nat.mul_le_mul_right _ h2
        _ = A.length * (2 ^ cs.length * 2) := by rw [Nat.mul_comm 2, Nat.mul_assoc, Nat.mul_comm 2]
  have := this cs [0]
  rw [List.length_singleton, Nat.one_mul] at this
  exact this
theorem ix01 {c : Nat} (hc : c = 45 ∨ c = 48 ∨ c = 49) : ∃ k : Nat, indexD (.str "01-") (dt [c]) = .ok (.int (k : Nat)) ∧ ixD (.lst [.lst [.int 0], .lst [.int 1], .lst [.int 0, .int 1]]) (.int (k : Nat)) = .ok (li (bitsC c)) := by
  have key : ∀ (c k : Nat), Builtin.Str.occurrences (Str.ofString "01-") (tx [c]) 0 (Str.ofString "01-").length 1 = [k] → indexD (.str "01-") (dt [c]) = .ok (.int (k : Nat)) := fun c k o => by
    show (match Builtin.Str.occurrences (Str.ofString "01-") (tx [c]) 0 (Str.ofString "01-").length 1 with | i :: _ => R.ok (D.int (i : Nat)) | [] => .stk) = _
    rw [o]
  rcases hc with rfl | rfl | rfl
  · exact ⟨2, key 45 2 (by decide +kernel), rfl⟩
  · exact ⟨0, key 48 0 (by decide +kernel), rfl⟩
  · exact ⟨1, key 49 1 (by decide +kernel), rfl⟩
theorem law_placesW_ok {cs : List Nat} {T : D} (hl : cs.length ≤ 20) (hc : ∀ c ∈ cs, c = 45 ∨ c = 48 ∨ c = 49) (hT : itD T = .ok (cs.map fun c => dt [c])) : C.g__law_places_2 [T] = .ok (.vl (li (placesW cs))) := by
  have h := for_idx (tm := tmName 2) (body := C.b__law_places_2_2) (vs := [2, 3, 4, 5]) (ws := []) (fun c : Nat => dt [c]) cs (fun i => [some T, some (li (placesW (cs.take i))), none, none, none, none, none]) fun i hi => by
    refine ⟨by simp, ?_⟩
    have hx := hc _ (List.getElem_mem hi)
    have z1 : (placesW (cs.take i)).length ≤ 2 ^ 20 := Nat.le_trans placesW_len (Nat.pow_le_pow_right (by omega) (by rw [List.length_take]; omega))
    have e1 : placesW (cs.take (i + 1)) = stepW (placesW (cs.take i)) cs[i] := by
      rw [placesW, List.take_succ_eq_append_getElem hi, List.foldl_append]
      rfl
    rw [e1]
    generalize placesW (cs.take i) = L at z1
    generalize cs[i] = c at hx
    obtain ⟨k, x1, x2⟩ := ix01 hx
    have lb := bitsC_len (c := c)
    have lp := for_idx (tm := tmName 5) (body := C.b__law_places_2_1) (vs := [5]) (ws := []) D.int L (fun j => [some T, some (li L), some (dt [c]), some (li (bitsC c)), some (li (stepW (L.take j) c)), none, none]) fun j hj => by
      refine ⟨by simp, ?_⟩
      have e2 : stepW (L.take (j + 1)) c = stepW (L.take j) c ++ (bitsC c).map fun b => 2 * L[j] + b := by
        rw [stepW, List.take_succ_eq_append_getElem hj, List.flatMap_append]
        simp [stepW]
      rw [e2]
      have zl := flatW_len (c := c) (L := L.take j)
      rw [List.length_take] at zl
      have cm := comp_map (tm := tmName 6) (t := cYes) (e := C.e__law_places_2_1) (vs := [6]) (ws := []) (ρ := [some T, some (li L), some (dt [c]), some (li (bitsC c)), some (li (stepW (L.take j) c)), some (.int L[j]), none]) D.int (fun b => D.int (2 * L[j] + b)) (bitsC c) fun b hb => by
        have : mulOk 2 L[j] = true := mulOk_l (by decide)
        generalize stepW (L.take j) c = ST at *
        generalize L[j] = p at *
        simp only [turnC, C.e__law_places_2_1]
        simp [this]
      have e3 : ((bitsC c).map fun b => D.int (2 * L[j] + b)) = ((bitsC c).map fun b => 2 * L[j] + b).map D.int := by rw [List.map_map]; rfl
      rw [e3] at cm
      have e4 : li (stepW (L.take j) c ++ (bitsC c).map fun b => 2 * L[j] + b) = .lst ((stepW (L.take j) c).map D.int ++ ((bitsC c).map fun b => 2 * L[j] + b).map D.int) := by
        show D.lst _ = _
        rw [List.map_append]
      rw [e4]
      have zz : szOk ((((stepW (L.take j) c).map D.int).length + (((bitsC c).map fun b => 2 * L[j] + b).map D.int).length)) = true := szOk_of (by rw [List.length_map, List.length_map, List.length_map]; omega)
      have zb : szOk ((bitsC c).map D.int).length = true := szOk_of (by rw [List.length_map]; omega)
      have e5 : li (stepW (L.take j) c) = .lst ((stepW (L.take j) c).map D.int) := rfl
      have e6 : li (bitsC c) = .lst ((bitsC c).map D.int) := rfl
      rw [e5, e6] at cm ⊢
      generalize ((bitsC c).map fun b => 2 * L[j] + b).map D.int = NB at *
      generalize (bitsC c).map D.int = BB at *
      generalize (stepW (L.take j) c).map D.int = SS at *
      generalize L[j] = p at *
      generalize li L = LL at *
      generalize dt [c] = CC at *
      simp only [turnF, C.b__law_places_2_1]
      generalize C.e__law_places_2_1 = E1 at *
      simp [zb, cm, zz]
    rw [List.take_length] at lp
    have lp : forL (tmName 5) C.b__law_places_2_1 [5] [] (L.map D.int) [some T, some (li L), some (dt [c]), some (li (bitsC c)), some (.lst []), none, none] = .ok (.nx, [some T, some (li L), some (dt [c]), some (li (bitsC c)), some (.lst ((stepW L c).map D.int)), none, none]) := lp
    have zL : szOk (L.map D.int).length = true := szOk_of (by rw [List.length_map]; omega)
    have eL : li L = .lst (L.map D.int) := rfl
    have eS : li (stepW L c) = .lst ((stepW L c).map D.int) := rfl
    rw [eL] at lp
    rw [eL, eS]
    generalize (stepW L c).map D.int = SD at *
    generalize L.map D.int = LD at *
    generalize dt [c] = CC at *
    generalize li (bitsC c) = BC at *
    simp only [turnF, C.b__law_places_2_2]
    generalize C.b__law_places_2_1 = B1 at *
    simp [x1, x2, zL, lp, szOk_of]
  rw [List.take_length] at h
  have h : forL (tmName 2) C.b__law_places_2_2 [2, 3, 4, 5] [] (cs.map fun c => dt [c]) [some T, some (.lst [.int 0]), none, none, none, none, none] = .ok (.nx, [some T, some (li (placesW cs)), none, none, none, none, none]) := h
  have z : szOk (cs.map fun c => dt [c]).length = true := szOk_of (by rw [List.length_map]; omega)
  simp only [C.g__law_places_2, C.m__law_places_2]
  generalize C.b__law_places_2_2 = B at h ⊢
  generalize li (placesW cs) = PW at *
  generalize (cs.map fun c => dt [c]) = CS at *
  simp [e_fnP, hT, z, h, szOk_of]
theorem law_bitsW_ok {ns : List RuleT} {most k : Nat} {f : List Nat} (ok : NetOk ns most) (hm : most ≤ 20) (hf : CaseOk ns.length f) (hk : k < ns.length) : C.g__law_bits_3 [dNet ns, dt f, .int k] = .ok (.fr (li (bitsF ns f k))) := by
  have rk := ok.lk hk
  have l20 := ok.le
  have g := (ok.good (by omega)).at hk
  have fl := hf.len
  have hsg : ∀ c ∈ signsAt f (ns.getD k ([], [])).1, c = 45 ∨ c = 48 ∨ c = 49 := fun c hc => by
    obtain ⟨e, he, rfl⟩ := List.mem_map.mp hc
    have := g.2.1 e he
    exact getD_sg hf.sg (by omega)
  have lk := rk.lk
  have a := net_at hk
  have l8 := lk.len
  have e3 : bitsF ns f k = setI ((placesW (signsAt f (ns.getD k ([], [])).1)).map fun p => (ns.getD k ([], [])).2.getD p.toNat 0) := by
    unfold bitsF
    refine setI_of setI_lt fun x => ?_
    rw [setI_mem, List.mem_map, List.mem_map]
    exact ⟨fun ⟨p, hp, e⟩ => ⟨p, (mem_placesW p).mpr hp, e⟩, fun ⟨p, hp, e⟩ => ⟨p, (mem_placesW p).mp hp, e⟩⟩
  rw [e3]
  generalize hr : ns.getD k ([], []) = r at *
  have lS : (signsAt f r.1).length = r.1.length := by simp [signsAt]
  have pw := law_placesW_ok (cs := signsAt f r.1) (T := .lst ((signsAt f r.1).map fun c => dt [c])) (by omega) hsg rfl
  have q := comp_map (tm := tmName 6) (t := cYes) (e := C.e__law_bits_3_1) (vs := [6]) (ws := []) (ρ := [some (dNet ns), some (dt f), some (.int k), some (ti r.1), some (ti r.2), none, none]) D.int (fun e => dt [f.getD e.toNat 0]) r.1 (fun e he => by
    have := g.2.1 e he
    have i1 := ix_dt (l := f) (k := e.toNat) (by omega) (by omega)
    rw [show ((e.toNat : Nat) : Int) = e by omega] at i1
    simp only [turnC, C.e__law_bits_3_1]
    generalize ti r.1 = T1 at *
    generalize ti r.2 = T2 at *
    simp [i1, -List.getD_eq_getElem?_getD])
  have e2 : (r.1.map fun e => dt [f.getD e.toNat 0]) = (signsAt f r.1).map fun c => dt [c] := by
    unfold signsAt
    rw [List.map_map]
    rfl
  rw [e2] at q
  have q2 := comp_map (tm := tmName 5) (t := cYes) (e := C.e__law_bits_3_2) (vs := [5]) (ws := []) (ρ := [some (dNet ns), some (dt f), some (.int k), some (ti r.1), some (ti r.2), none, none]) D.int (fun p => D.int (r.2.getD p.toNat 0)) (placesW (signsAt f r.1)) (fun p hp => by
    have b := places_lt hsg ((mem_placesW p).mp hp)
    have a := atI_mapI (xs := r.2) b.1 (by rw [lk.tab, ← lS]; exact_mod_cast b.2)
    have et : ti r.2 = .tup (r.2.map D.int) := rfl
    rw [et]
    generalize ti r.1 = T1 at *
    generalize r.2.map D.int = R2 at *
    simp only [turnC, C.e__law_bits_3_2]
    simp [ixD, a, -List.getD_eq_getElem?_getD])
  have e4 : ((placesW (signsAt f r.1)).map fun p => D.int (r.2.getD p.toNat 0)) = ((placesW (signsAt f r.1)).map fun p => r.2.getD p.toNat 0).map D.int := by rw [List.map_map]; rfl
  rw [e4] at q2
  have dl := dedup_bits (xs := (placesW (signsAt f r.1)).map fun p => r.2.getD p.toNat 0) fun x hx => by
    obtain ⟨p, _, rfl⟩ := List.mem_map.mp hx
    exact getD_bit lk.bit _
  have ll : (placesW (signsAt f r.1)).length ≤ 256 := Nat.le_trans placesW_len (Nat.le_trans (Nat.pow_le_pow_right (by omega) (by omega : (signsAt f r.1).length ≤ 8)) (by omega))
  have z : szOk ((placesW (signsAt f r.1)).map D.int).length = true := szOk_of (by rw [List.length_map]; omega)
  have z2 : szOk (r.1.map D.int).length = true := szOk_of (by rw [List.length_map]; omega)
  have eP : li (placesW (signsAt f r.1)) = .lst ((placesW (signsAt f r.1)).map D.int) := rfl
  rw [eP] at pw
  have i1 : itD (ti r.1) = .ok (r.1.map D.int) := rfl
  simp only [C.g__law_bits_3, C.m__law_bits_3]
  generalize C.e__law_bits_3_1 = B1 at *
  generalize C.e__law_bits_3_2 = B2 at *
  have lX : ((placesW (signsAt f r.1)).map fun p => r.2.getD p.toNat 0).length ≤ 4000 := by rw [List.length_map]; omega
  generalize ((placesW (signsAt f r.1)).map fun p => r.2.getD p.toNat 0) = X at *
  generalize (placesW (signsAt f r.1)).map D.int = PD at *
  generalize (signsAt f r.1).map (fun c => dt [c]) = SD at *
  have ix : ixD (dNet ns) (.int k) = .ok (.tup [ti r.1, ti r.2]) := by
    show (match atI (ns.map dRule) (k : Int) with | some d => R.ok d | none => .stk) = _
    rw [a]
  generalize r.1.map D.int = R1 at *
  generalize ti r.1 = T1 at *
  generalize ti r.2 = T2 at *
  generalize dNet ns = N at *
  simp [e_fnP, ix, i1, z2, q, pw, z, q2, lX, dl]
end H

set_option Elab.async false
set_option linter.all false
set_option maxRecDepth 100000
set_option maxHeartbeats 2000000
namespace H
open PySem PySem.Spec PyProof.Rows L2 Y
def pourN (ns : List RuleT) : Nat → List Nat → List (List Nat) → List Nat × List (List Nat)
  | 0, f, L => (f, L)
  | n + 1, f, L => if (toldI ns f).isEmpty = true then (f, L) else pourN ns n (closeS ns f f (toldI ns f)) (L ++ [toldI ns f])
theorem told_sorted {ns : List RuleT} {f : List Nat} : sortI ((toldI ns f).map fun k : Nat => (k : Int)) = (toldI ns f).map fun k : Nat => (k : Int) := by
  symm
  refine sortI_of (List.Perm.refl _) (List.pairwise_map.mpr ?_)
  have : (toldI ns f).Pairwise (· < ·) := List.Pairwise.sublist List.filter_sublist List.pairwise_lt_range
  exact this.imp fun h => by omega
theorem told_ln {ks : List Nat} : D.lst ((ks.map fun k : Nat => (k : Int)).map D.int) = ln' ks := by rw [List.map_map]; rfl
theorem pour_goN {ns : List RuleT} {most : Nat} (ok : NetOk ns most) (hm : most ≤ 11) {r0 r1 : Option D} : ∀ (n : Nat) (f : List Nat) (L : List (List Nat)), dash f < n → CaseOk ns.length f → L.length + n ≤ 1000 →
    whileN (cBl (cOp neZ (cVar 5) (cDic0))) C.b_poured_2 [6, 7] n [r0, r1, some (dNet ns), some (dt f), some (.lst (L.map ln')), some (toldD ns f (toldI ns f)), none, none] = .ok (.nx, [r0, r1, some (dNet ns), some (dt (pourN ns n f L).1), some (.lst ((pourN ns n f L).2.map ln')), some (.dik [] []), none, none])
  | 0, f, _, hd, _, _ => by omega
  | n + 1, f, L, hd, hf, hL => by
    have le := ok.le
    obtain ⟨hc, hdc⟩ := close_f ok hf
    have t : cBl (cOp neZ (cVar 5) (cDic0)) [r0, r1, some (dNet ns), some (dt f), some (.lst (L.map ln')), some (toldD ns f (toldI ns f)), none, none] = .ok (!(toldI ns f).isEmpty, [r0, r1, some (dNet ns), some (dt f), some (.lst (L.map ln')), some (toldD ns f (toldI ns f)), none, none]) := by
      simp
    have ep : pourN ns (n + 1) f L = if (toldI ns f).isEmpty = true then (f, L) else pourN ns n (closeS ns f f (toldI ns f)) (L ++ [toldI ns f]) := rfl
    rw [ep]
    cases e : (toldI ns f).isEmpty with
    | true =>
      have e0 := List.isEmpty_iff.mp e
      rw [e] at t
      rw [whileN_stop' t, e0]
      rfl
    | false =>
      have hne : toldI ns f ≠ [] := fun z => by rw [z] at e; cases e
      have lp : 0 < (toldI ns f).length := List.length_pos_iff.mpr hne
      have lf : (toldI ns f).length ≤ ns.length := by
        have := List.length_filter_le (oneB ns f) (List.range ns.length)
        rw [List.length_range] at this
        exact this
      have t2 := told_alone_ok ok (by omega) hc
      have it := pour_items ok (by omega) hf (r0 := r0) (r1 := r1) (r2 := some (dNet ns)) (r4 := some (.lst (L.map ln'))) (r5 := some (toldD ns f (toldI ns f))) (ks := toldI ns f) hf fun k hk => told_mem.mp hk
      have zl : szOk (toldI ns f).length = true := szOk_of (by omega)
      have so := sort_told (ns := ns) (f := f) (ks := toldI ns f) (by omega)
      rw [told_sorted, told_ln] at so
      have w1 := pour_goN ok hm (r0 := r0) (r1 := r1) n (closeS ns f f (toldI ns f)) (L ++ [toldI ns f]) (by omega) hc (by rw [List.length_append, List.length_singleton]; omega)
      have zL : szOk ((L.map ln').length + 1) = true := szOk_of (by rw [List.length_map]; omega)
      have b : C.b_poured_2 [r0, r1, some (dNet ns), some (dt f), some (.lst (L.map ln')), some (toldD ns f (toldI ns f)), none, none] = .ok (.nx, [r0, r1, some (dNet ns), some (dt (closeS ns f f (toldI ns f))), some (.lst ((L ++ [toldI ns f]).map ln')), some (toldD ns (closeS ns f f (toldI ns f)) (toldI ns (closeS ns f f (toldI ns f)))), none, none]) := by
        have di : dicItems (toldD ns f (toldI ns f)) = .ok ((toldI ns f).map fun k : Nat => D.tup [.int (k : Nat), .int (bitOf ns f k)]) := by
          rw [d_itemsK, zip_map2, List.map_map]
          rfl
        have dl : ((toldI ns f).map fun k : Nat => D.tup [.int (k : Nat), .int (bitOf ns f k)]).length = (toldI ns f).length := List.length_map _
        have eA : (L ++ [toldI ns f]).map ln' = L.map ln' ++ [ln' (toldI ns f)] := by rw [List.map_append]; rfl
        rw [eA]
        generalize hW : closeS ns f f (toldI ns f) = W at it t2 ⊢
        generalize toldD ns W (toldI ns W) = L2 at t2 ⊢
        generalize (toldI ns f).map (fun k : Nat => D.tup [.int (k : Nat), .int (bitOf ns f k)]) = LL at it di dl
        generalize ln' (toldI ns f) = SS at so ⊢
        generalize L.map ln' = LM at *
        generalize toldD ns f (toldI ns f) = T at it di so
        simp only [C.b_poured_2]
        generalize C.b_poured_1 = B at it ⊢
        simp [di, dl, zl, it, t2, so, zL]
      rw [e] at t
      rw [whileN_step' t b]
      exact w1
/-- what poured tells -/
def pourR (ns : List RuleT) (hs : List (Nat × Int)) : List Nat × List (List Nat) := pourN (heldL ns hs) (dash (frH ns.length hs) + 1) (frH ns.length hs) [hs.map (·.1)]
theorem dash_len8 {n : Nat} {f : List Nat} (h : CaseOk n f) : dash f ≤ n := by
  have : dash f ≤ f.length := List.length_filter_le _ _
  rw [h.len] at this
  exact this
theorem poured_ok {ns : List RuleT} {hs : List (Nat × Int)} {XD : D} {most : Nat} (ok : NetOk ns most) (hm : most ≤ 8) (hx : Sq XD (hs.map dH)) (h : HoldsOk ns.length hs) : C.g_poured [dNet ns, XD] = .ok (.fr (.tup [dt (pourR ns hs).1, .lst ((pourR ns hs).2.map ln')])) := by
  have le := ok.le
  have hl := h.len
  have hd := held_sq hx h (by omega)
  have ok2 := held_net ok h
  have ll := heldL_len (ns := ns) (hs := hs)
  obtain ⟨fo, fc⟩ := frame_of_ok hx h (by omega)
  have fc2 : CaseOk (heldL ns hs).length (frH ns.length hs) := by rw [ll]; exact fc
  have t1 := told_alone_ok ok2 (by omega) fc2
  have cm := comp_map (tm := tmTup [6, 7]) (t := cYes) (e := C.e_poured_1) (vs := [6, 7]) (ws := []) (ρ := [some (dNet ns), some XD, some (dNet (heldL ns hs)), some (dt (frH ns.length hs)), none, none, none, none]) dH (fun p => D.int (p.1 : Nat)) hs fun p hp => by
    simp only [turnC, C.e_poured_1]
    unfold dH
    simp
  have dn := dash_len8 fc
  have w := pour_goN ok2 (by omega) (r0 := some (dNet ns)) (r1 := some XD) (dash (frH ns.length hs) + 1) (frH ns.length hs) [hs.map (·.1)] (by omega) fc2 (by rw [List.length_singleton]; omega)
  have w := sWhile_of w
  have e0 : [hs.map (·.1)].map ln' = [.lst (hs.map fun p => D.int (p.1 : Nat))] := by
    show [ln' (hs.map (·.1))] = _
    have : ln' (hs.map (·.1)) = D.lst (hs.map fun p => D.int (p.1 : Nat)) := by
      show D.lst ((hs.map (·.1)).map fun k : Nat => D.int (k : Nat)) = _
      rw [List.map_map]; rfl
    rw [this]
  rw [e0] at w
  have eR : pourN (heldL ns hs) (dash (frH ns.length hs) + 1) (frH ns.length hs) [hs.map (·.1)] = pourR ns hs := rfl
  rw [eR] at w
  have iX := sq_it hx
  have zl : szOk (hs.map dH).length = true := szOk_of (by rw [List.length_map]; omega)
  simp only [C.g_poured, C.m_poured]
  generalize C.b_poured_2 = B at *
  generalize C.e_poured_1 = E1 at *
  generalize toldD (heldL ns hs) (frH ns.length hs) (toldI (heldL ns hs) (frH ns.length hs)) = T at *
  generalize dNet (heldL ns hs) = N2 at *
  generalize dNet ns = N at *
  generalize hs.map (fun p => D.int (p.1 : Nat)) = KS at *
  generalize hs.map dH = HH at *
  generalize dt (frH ns.length hs) = F at *
  generalize dt (pourR ns hs).1 = G at *
  generalize (pourR ns hs).2.map ln' = L' at *
  clear hx
  simp [e_fnP, hd, fo, iX, zl, cm, t1, w, shAt, chkO_ws, szOk_of]
theorem closeS_get {ns : List RuleT} {m : Nat} {f : List Nat} : ∀ {ks : List Nat} {g : List Nat}, g.length = m → (∀ k ∈ ks, k < m) → ∀ j, (closeS ns f g ks).getD j 0 = if j ∈ ks then sgOf ns f j else g.getD j 0
  | [], g, _, _, j => by simp [closeS]
  | k :: ks, g, hg, h, j => by
    have hk := h k (by simp)
    have lg : (sign g k (sgOf ns f k)).length = m := by
      unfold sign
      rw [List.length_append, List.length_take, List.length_cons, List.length_drop]
      omega
    have e : closeS ns f g (k :: ks) = closeS ns f (sign g k (sgOf ns f k)) ks := rfl
    rw [e, closeS_get lg (fun k hk => h k (by simp [hk])) j, sign_getD hg hk]
    by_cases c1 : j ∈ ks
    · simp [c1]
    · by_cases c2 : j = k
      · subst c2; simp
      · simp [c1, c2]
def o4f (o : Option D) : Nat → Option D
  | 0 => o
  | j + 1 => some (.int (j : Nat))
theorem law_close {ns : List RuleT} {most m : Nat} {f : List Nat} (ok : NetOk ns most) (hm : most ≤ 11) (hf : CaseOk ns.length f) (r0 r1 o4 r6 : Option D) :
    forL (tmName 4) C.b__law_poured_2_2 [8] [] ((List.range ns.length).map fun j : Nat => D.int (j : Nat)) [r0, r1, some (dNet ns), some (dt f), o4, none, r6, some (dt f), none] = .ok (.nx, [r0, r1, some (dNet ns), some (dt f), o4f o4 ns.length, none, r6, some (dt (closeS ns f f (toldI ns f))), none]) := by
  have le := ok.le
  refine for_rng (n := ns.length) (fun j : Nat => D.int (j : Nat)) (fun j => [r0, r1, some (dNet ns), some (dt f), o4f o4 j, none, r6, some (dt (closeS ns f f ((List.range j).filter (oneB ns f)))), none]) fun j hj => ?_
  have b := law_bitsW_ok ok (by omega) hf hj
  have i1 := ix_dt (l := f) (k := j) (by have := hf.len; omega) (by have := hf.len; omega)
  have sg := getD_sg hf.sg (j := j) (by have := hf.len; omega)
  have e1 := eq_dt (a := [f.getD j 0]) (b := [45]) (sg1 (by omega)) (sg1 (by omega))
  refine ⟨by simp, ?_⟩
  have ef : (List.range (j + 1)).filter (oneB ns f) = (List.range j).filter (oneB ns f) ++ (if oneB ns f j = true then [j] else []) := filter_snoc
  obtain ⟨hg, _⟩ := closeS_ok ok hf (ks := (List.range j).filter (oneB ns f)) hf ((List.filter_sublist).nodup List.nodup_range) fun k hk => by
    obtain ⟨h1, h2⟩ := List.mem_filter.mp hk
    refine ⟨Nat.lt_trans (List.mem_range.mp h1) hj, h2, ?_⟩
    unfold oneB at h2
    rw [Bool.and_eq_true] at h2
    exact of_decide_eq_true h2.1
  have w := (with_sign_ok (m := ns.length) (c := sgOf ns f j) (by omega) hg hj).2
  have ec : closeS ns f f ((List.range j).filter (oneB ns f) ++ [j]) = sign (closeS ns f f ((List.range j).filter (oneB ns f))) j (sgOf ns f j) := by
    unfold closeS
    rw [List.foldl_append]
    rfl
  rw [ef]
  have eo : oneB ns f j = (decide (f.getD j 0 = 45) && decide ((bitsF ns f j).length = 1)) := rfl
  have at0 : (bitsF ns f j).length = 1 → atI ((bitsF ns f j).map D.int) 0 = some (.int (bitOf ns f j)) := fun q => by
    rw [(bitOf_bit ok hf hj q).2]
    exact atI_of (j := 0) rfl rfl
  have sb : (bitsF ns f j).length = 1 → strOfD [.int (bitOf ns f j)] = .ok (dt [sgOf ns f j]) := fun q => str_bit (bitOf_bit ok hf hj q).1
  have o5 : o4f o4 (j + 1) = some (.int (j : Nat)) := rfl
  rw [o5]
  simp only [turnF, C.b__law_poured_2_2, s_dash]
  rw [eo]
  have two := bitsF_two ok hf hj
  generalize (List.range j).filter (oneB ns f) = L at *
  generalize f.getD j 0 = c at *
  generalize o4f o4 j = o6 at *
  by_cases c1 : c = 45
  · subst c1
    by_cases c2 : (bitsF ns f j).length = 1
    · have at0 := at0 c2
      have sb := sb c2
      have c3 : ((bitsF ns f j).length : Int) = 1 := by omega
      simp [b, i1, e1, c2, c3, at0, sb, w, ec, szOk_of]
    · have c3 : ¬ ((bitsF ns f j).length : Int) = 1 := by omega
      have zb : szOk (bitsF ns f j).length = true := szOk_of (by omega)
      simp [b, i1, e1, c2, c3, zb, szOk_of]
  · simp [b, i1, e1, c1, szOk_of]
theorem law_goN {ns : List RuleT} {most : Nat} (ok : NetOk ns most) (hm : most ≤ 11) {N0 : D} (hN : lenD [N0] = .ok (.int ns.length)) {r1 : Option D} : ∀ (n : Nat) (f : List Nat) (L : List (List Nat)), dash f < n → CaseOk ns.length f → L.length + n ≤ 1000 →
    ∃ ρ, whileN (cTru (cC (.bl true))) C.b__law_poured_2_3 [7, 8] n [some N0, r1, some (dNet ns), some (dt f), none, none, some (.lst (L.map ln')), none, none] = .ok (.rt (.fr (.tup [dt (pourN ns n f L).1, .lst ((pourN ns n f L).2.map ln')])), ρ)
  | 0, f, _, hd, _, _ => by omega
  | n + 1, f, L, hd, hf, hL => by
    have le := ok.le
    obtain ⟨hc, hdc⟩ := close_f ok hf
    have lt := law_close (m := 0) ok hm hf (some N0) r1 none (some (.lst (L.map ln')))
    have ee := eq_dt (a := closeS ns f f (toldI ns f)) (b := f) hc.sgok hf.sgok
    have rm : rng1D [.int (ns.length : Nat)] = .ok ((List.range ns.length).map fun j : Nat => D.int (j : Nat)) := by rw [d_rng1, if_pos (rngOk_of (by omega) (by omega))]; rfl
    have zm : szOk ((List.range ns.length).map fun j : Nat => D.int (j : Nat)).length = true := szOk_of (by rw [List.length_map, List.length_range]; omega)
    have ep : pourN ns (n + 1) f L = if (toldI ns f).isEmpty = true then (f, L) else pourN ns n (closeS ns f f (toldI ns f)) (L ++ [toldI ns f]) := rfl
    rw [ep]
    generalize o4f none ns.length = o4 at *
    cases e : (toldI ns f).isEmpty with
    | true =>
      have e0 := List.isEmpty_iff.mp e
      rw [e0] at lt ee
      have e1 : closeS ns f f [] = f := rfl
      rw [e1] at lt ee
      rw [decide_eq_true rfl] at ee
      refine ⟨[some N0, r1, some (dNet ns), some (dt f), o4, none, none, some (dt f), none], ?_⟩
      rw [if_pos rfl]
      have b : C.b__law_poured_2_3 [some N0, r1, some (dNet ns), some (dt f), none, none, some (.lst (L.map ln')), none, none] = .ok (.rt (.fr (.tup [dt f, .lst (L.map ln')])), [some N0, r1, some (dNet ns), some (dt f), o4, none, none, some (dt f), none]) := by
        generalize L.map ln' = LM at *
        generalize ((List.range ns.length).map fun j : Nat => D.int (j : Nat)) = RG at *
        generalize dNet ns = N2 at *
        generalize dt f = F at *
        simp only [C.b__law_poured_2_3]
        generalize C.b__law_poured_2_2 = B at lt ⊢
        simp [hN, rm, zm, lt, ee, -d_rng1]
      unfold whileN
      simp [b]
    | false =>
      have hne : toldI ns f ≠ [] := fun z => by rw [z] at e; cases e
      have lp : 0 < (toldI ns f).length := List.length_pos_iff.mpr hne
      have lf : (toldI ns f).length ≤ ns.length := by
        have := List.length_filter_le (oneB ns f) (List.range ns.length)
        rw [List.length_range] at this
        exact this
      have ne : closeS ns f f (toldI ns f) ≠ f := fun z => by rw [z] at hdc; omega
      rw [decide_eq_false ne] at ee
      obtain ⟨ρ, w1⟩ := law_goN ok hm hN (r1 := r1) n (closeS ns f f (toldI ns f)) (L ++ [toldI ns f]) (by omega) hc (by rw [List.length_append, List.length_singleton]; omega)
      refine ⟨ρ, ?_⟩
      rw [if_neg Bool.false_ne_true]
      have zL : szOk ((L.map ln').length + 1) = true := szOk_of (by rw [List.length_map]; omega)
      have cm := comp_filter (tm := tmName 4) (t := C.t__law_poured_2_2) (e := C.e__law_poured_2_2) (vs := [4]) (ws := []) (ρ := [some N0, r1, some (dNet ns), some (dt f), none, none, some (.lst (L.map ln')), some (dt (closeS ns f f (toldI ns f))), none]) (fun k : Nat => D.int (k : Nat)) (oneB ns f) (fun k : Nat => D.int (k : Nat)) (List.range ns.length) fun k hk => by
        have hk := List.mem_range.mp hk
        have i1 := ix_dt (l := f) (k := k) (by have := hf.len; omega) (by have := hf.len; omega)
        have i2 := ix_dt (l := closeS ns f f (toldI ns f)) (k := k) (by have := hc.len; omega) (by have := hc.len; omega)
        have cg := closeS_get (ns := ns) (f := f) (ks := toldI ns f) (g := f) hf.len (fun k hk => (told_mem.mp hk).1) k
        have s1 := getD_sg hf.sg (j := k) (by have := hf.len; omega)
        have s2 := getD_sg hc.sg (j := k) (by have := hc.len; omega)
        have nq := ne_dt (a := [f.getD k 0]) (b := [(closeS ns f f (toldI ns f)).getD k 0]) (sg1 (by omega)) (sg1 (by omega))
        have eb : (!decide ([f.getD k 0] = [(closeS ns f f (toldI ns f)).getD k 0])) = oneB ns f k := by
          rw [cg]
          by_cases c : k ∈ toldI ns f
          · have c2 := (told_mem.mp c).2
            rw [if_pos c, c2]
            have c3 : f.getD k 0 = 45 := by
              unfold oneB at c2
              rw [Bool.and_eq_true] at c2
              exact of_decide_eq_true c2.1
            have : ¬ [f.getD k 0] = [sgOf ns f k] := fun z => by
              have z := List.cons.inj z
              unfold sgOf at z
              omega
            rw [decide_eq_false this]
            rfl
          · rw [if_neg c, decide_eq_true rfl]
            cases q : oneB ns f k with
            | false => rfl
            | true => exact absurd (told_mem.mpr ⟨hk, q⟩) c
        rw [eb] at nq
        generalize oneB ns f k = q at *
        generalize dt [f.getD k 0] = A1 at *
        generalize dt [(closeS ns f f (toldI ns f)).getD k 0] = A2 at *
        generalize dt (closeS ns f f (toldI ns f)) = A3 at *
        generalize L.map ln' = LM at *
        generalize dNet ns = N2 at *
        generalize dt f = F at *
        simp only [turnC, C.t__law_poured_2_2, C.e__law_poured_2_2]
        cases q <;> simp [i1, i2, nq]
      have eT : ((List.range ns.length).filter (oneB ns f)).map (fun k : Nat => D.int (k : Nat)) = (toldI ns f).map fun k : Nat => D.int (k : Nat) := rfl
      rw [eT] at cm
      have b : C.b__law_poured_2_3 [some N0, r1, some (dNet ns), some (dt f), none, none, some (.lst (L.map ln')), none, none] = .ok (.nx, [some N0, r1, some (dNet ns), some (dt (closeS ns f f (toldI ns f))), none, none, some (.lst ((L ++ [toldI ns f]).map ln')), some (dt (closeS ns f f (toldI ns f))), none]) := by
        have eA : (L ++ [toldI ns f]).map ln' = L.map ln' ++ [.lst ((toldI ns f).map fun k : Nat => D.int (k : Nat))] := by rw [List.map_append]; rfl
        rw [eA]
        generalize (toldI ns f).map (fun k : Nat => D.int (k : Nat)) = TT at *
        generalize dt (closeS ns f f (toldI ns f)) = A3 at *
        generalize L.map ln' = LM at *
        generalize ((List.range ns.length).map fun j : Nat => D.int (j : Nat)) = RG at *
        generalize dNet ns = N2 at *
        generalize dt f = F at *
        simp only [C.b__law_poured_2_3]
        generalize C.b__law_poured_2_2 = B at lt ⊢
        generalize C.t__law_poured_2_2 = T2 at *
        generalize C.e__law_poured_2_2 = E2 at *
        simp [hN, rm, zm, lt, ee, cm, zL, -d_rng1]
      have eA : (L ++ [toldI ns f]).map ln' = L.map ln' ++ [ln' (toldI ns f)] := by rw [List.map_append]; rfl
      rw [eA] at w1
      unfold whileN
      simp [b]
      exact w1
def o4h (hs : List (Nat × Int)) : Nat → Option D
  | 0 => none
  | i + 1 => some (.int ((hs.getD i (0, 0)).1 : Nat))
theorem chk_74 {a b c d o4 : Option D} : chkO [6] [] [a, b, c, d, o4, none, none, none, none] [a, b, c, d, none, none, none, none, none] = .ok () :=
  chkO_of ⟨.inr (.inl ⟨rfl, by decide⟩), .inr (.inl ⟨rfl, by decide⟩), .inr (.inl ⟨rfl, by decide⟩), .inr (.inl ⟨rfl, by decide⟩), .inl rfl, .inl rfl, .inl rfl, .inl rfl, .inl rfl, trivial⟩
theorem law_poured_ok {ns : List RuleT} {hs : List (Nat × Int)} {most : Nat} (ok : NetOk ns most) (hm : most ≤ 8) (h : HoldsOk ns.length hs) : C.g__law_poured_2 [dNet ns, HD hs] = .ok (.fr (.tup [dt (pourR ns hs).1, .lst ((pourR ns hs).2.map ln')])) := by
  have le := ok.le
  have hl := h.len
  have hd := law_held_ok h (by omega)
  have ok2 := held_net ok h
  have ll := heldL_len (ns := ns) (hs := hs)
  have okT : ∀ i, CaseOk ns.length (frH ns.length (hs.take i)) := fun i => frH_ok rep_case fun p hp => ⟨h.lt p (List.mem_of_mem_take hp), h.bit p (List.mem_of_mem_take hp)⟩
  have fc : CaseOk ns.length (frH ns.length hs) := by have := okT hs.length; rwa [List.take_length] at this
  have fc2 : CaseOk (heldL ns hs).length (frH ns.length hs) := by rw [ll]; exact fc
  have ln : lenD [dNet ns] = .ok (.int ns.length) := by simp
  have lp := for_idx (tm := tmTup [4, 5]) (body := C.b__law_poured_2_1) (vs := [5]) (ws := []) dH hs (fun i => [some (dNet ns), some (HD hs), some (dNet (heldL ns hs)), some (dt (frH ns.length (hs.take i))), o4h hs i, none, none, none, none]) fun i hi => by
    refine ⟨by simp, ?_⟩
    have l2 := h.lt _ (List.getElem_mem hi)
    have l3 := h.bit _ (List.getElem_mem hi)
    have et : hs.take (i + 1) = hs.take i ++ [hs[i]] := List.take_succ_eq_append_getElem hi
    have w := (with_sign_ok (c := 48 + (hs[i]).2.toNat) (by omega) (okT i) l2).2
    have eo : o4h hs (i + 1) = some (.int ((hs[i]).1 : Nat)) := by
      show some (D.int ((hs.getD i (0, 0)).1 : Nat)) = _
      rw [List.getD_eq_getElem?_getD, List.getElem?_eq_getElem hi]
      rfl
    rw [et, frH_snoc, eo]
    have sb : strOfD [.int (hs[i]).2] = .ok (dt [48 + (hs[i]).2.toNat]) := str_bit l3
    unfold dH
    generalize frH ns.length (hs.take i) = f at *
    generalize sign f (hs[i]).1 (48 + (hs[i]).2.toNat) = g at *
    generalize (hs[i]).1 = k at *
    generalize (hs[i]).2 = b at *
    generalize dNet (heldL ns hs) = N2 at *
    generalize dNet ns = N at *
    generalize o4h hs i = o4 at *
    generalize HD hs = HX at *
    simp only [turnF, C.b__law_poured_2_1]
    simp [sb, w]
  rw [List.take_length] at lp
  have lp : forL (tmTup [4, 5]) C.b__law_poured_2_1 [5] [] (hs.map dH) [some (dNet ns), some (HD hs), some (dNet (heldL ns hs)), some (dt (List.replicate ns.length 45)), none, none, none, none, none] = .ok (.nx, [some (dNet ns), some (HD hs), some (dNet (heldL ns hs)), some (dt (frH ns.length hs)), o4h hs hs.length, none, none, none, none]) := lp
  have cm := comp_map (tm := tmTup [4, 5]) (t := cYes) (e := C.e__law_poured_2_1) (vs := [4, 5]) (ws := []) (ρ := [some (dNet ns), some (HD hs), some (dNet (heldL ns hs)), some (dt (frH ns.length hs)), none, none, none, none, none]) dH (fun p => D.int (p.1 : Nat)) hs fun p hp => by
    simp only [turnC, C.e__law_poured_2_1]
    unfold dH
    simp
  have dn := dash_len8 fc
  obtain ⟨ρ, w⟩ := law_goN ok2 (by omega) (N0 := dNet ns) (by rw [ll]; exact ln) (r1 := some (HD hs)) (dash (frH ns.length hs) + 1) (frH ns.length hs) [hs.map (·.1)] (by omega) fc2 (by rw [List.length_singleton]; omega)
  have w := sWhile_of w
  have e0 : [hs.map (·.1)].map ln' = [.lst (hs.map fun p => D.int (p.1 : Nat))] := by
    show [ln' (hs.map (·.1))] = _
    have : ln' (hs.map (·.1)) = D.lst (hs.map fun p => D.int (p.1 : Nat)) := by
      show D.lst ((hs.map (·.1)).map fun k : Nat => D.int (k : Nat)) = _
      rw [List.map_map]; rfl
    rw [this]
  rw [e0] at w
  have eR : pourN (heldL ns hs) (dash (frH ns.length hs) + 1) (frH ns.length hs) [hs.map (·.1)] = pourR ns hs := rfl
  rw [eR] at w
  have zl : szOk (hs.map dH).length = true := szOk_of (by rw [List.length_map]; omega)
  have dm := dash_mul (n := ns.length) (by omega)
  have eH : HD hs = .ftu (hs.map dH) := rfl
  rw [eH] at hd lp cm w ⊢
  simp only [C.g__law_poured_2, C.m__law_poured_2]
  generalize C.b__law_poured_2_3 = B3 at *
  generalize C.b__law_poured_2_1 = B1 at *
  generalize C.e__law_poured_2_1 = E1 at *
  generalize dNet (heldL ns hs) = N2 at *
  generalize dNet ns = N at *
  generalize hs.map (fun p => D.int (p.1 : Nat)) = KS at *
  generalize hs.map dH = HH at *
  generalize dt (List.replicate ns.length 45) = F0 at *
  generalize dt (frH ns.length hs) = F at *
  generalize dt (pourR ns hs).1 = G at *
  generalize (pourR ns hs).2.map ln' = L' at *
  generalize o4h hs hs.length = o4 at *
  clear okT
  simp [e_fnP, hd, ln, dm, zl, lp, cm, w, chk_74, shAt, chkO_ws, szOk_of, -d_mulS]
end H

set_option Elab.async false
set_option linter.all false
set_option maxRecDepth 100000
set_option maxHeartbeats 4000000
namespace H
open PySem PySem.Spec PyProof.Rows L2 Y
theorem pourN_case {ns : List RuleT} {most : Nat} (ok : NetOk ns most) : ∀ (n : Nat) {f : List Nat} {L : List (List Nat)}, CaseOk ns.length f → CaseOk ns.length (pourN ns n f L).1
  | 0, f, L, h => h
  | n + 1, f, L, h => by
    unfold pourN
    split
    · exact h
    · exact pourN_case ok n (close_f ok h).1
theorem pourR_case {ns : List RuleT} {most : Nat} (ok : NetOk ns most) {hs : Hs} (h : HoldsOk ns.length hs) : CaseOk ns.length (pourR ns hs).1 := by
  have ok2 := held_net ok h
  have fc := frH_ok (n := ns.length) (hs := hs) rep_case fun p hp => ⟨h.lt p hp, h.bit p hp⟩
  have := pourN_case ok2 (dash (frH ns.length hs) + 1) (f := frH ns.length hs) (L := [hs.map (·.1)]) (by rw [heldL_len]; exact fc)
  rw [heldL_len] at this
  exact this
theorem frH_full {m : Nat} {st : List Int} (hs : IsSt m st) : ∀ k, k ≤ m → CaseOk m (frH m (fullH st k)) ∧ ∀ j, j < m → (frH m (fullH st k)).getD j 0 = if j < k then 48 + (st.getD j 0).toNat else 45
  | 0, _ => ⟨rep_case, fun j hj => by
    rw [if_neg (by omega)]
    show (List.replicate m 45).getD j 0 = 45
    rw [List.getD_eq_getElem?_getD, List.getElem?_replicate, if_pos hj]
    rfl⟩
  | k + 1, hk => by
    obtain ⟨h1, h2⟩ := frH_full hs k (by omega)
    have e : fullH st (k + 1) = fullH st k ++ [(k, st.getD k 0)] := by simp [fullH, List.range_succ]
    have b := hs.get k
    rw [e, frH_snoc]
    refine ⟨sign_ok h1 (by show k < m; omega) (by show 48 + (st.getD k 0).toNat = 45 ∨ _; omega), fun j hj => ?_⟩
    rw [sign_getD h1.len (by show k < m; omega)]
    show (if j = k then 48 + (st.getD k 0).toNat else _) = _
    by_cases e1 : j = k
    · subst e1; rw [if_pos rfl, if_pos (by omega)]
    · rw [if_neg e1, h2 j hj]
      by_cases e2 : j < k
      · rw [if_pos e2, if_pos (by omega)]
      · rw [if_neg e2, if_neg (by omega)]
theorem full_pours {ns : List RuleT} {st : List Int} (hs : IsSt ns.length st) : (pourR ns (fullH st ns.length)).1 = tOf st := by
  obtain ⟨h1, h2⟩ := frH_full hs ns.length (Nat.le_refl _)
  have ef : frH ns.length (fullH st ns.length) = tOf st := by
    rw [← range_getD (d := 0) h1.len, ← range_getD (d := 0) (tOf_case hs).len]
    refine List.map_congr_left fun k hk => ?_
    have hk := List.mem_range.mp hk
    rw [h2 k hk, if_pos hk, tOf_getD hs hk]
  unfold pourR
  rw [ef]
  have : toldI (heldL ns (fullH st ns.length)) (tOf st) = [] := by
    unfold toldI
    rw [List.filter_eq_nil_iff]
    intro k hk
    have hk := List.mem_range.mp hk
    rw [heldL_len] at hk
    unfold oneB
    rw [tOf_getD hs hk]
    have b := hs.get k
    have : decide (48 + (st.getD k 0).toNat = 45) = false := decide_eq_false (by omega)
    rw [this]
    simp
  unfold pourN
  rw [this]
  rfl
def pourB (ns : List RuleT) (st : List Int) (h : Hs) : Bool := decide ((pourR ns h).1 = tOf st)
theorem poured_find {ns : List RuleT} {st : List Int} (hst : IsSt ns.length st) : ∃ f, (sortKL (allH st ns.length)).find? (pourB ns st) = some f := by
  cases e : (sortKL (allH st ns.length)).find? (pourB ns st) with
  | some f => exact ⟨f, rfl⟩
  | none =>
    rw [List.find?_eq_none] at e
    exact absurd (decide_eq_true (full_pours hst)) (e _ ((sortKL_perm _).mem_iff.mpr (full_mem st ns.length)))
theorem fewestP_loop {ns : List RuleT} {most : Nat} {st : List Int} {TP : Addr} (ok : NetOk ns most) (hm : most ≤ 8) (hst : IsSt ns.length st) {f : Hs} : ∀ (L : List Hs), (∀ h ∈ L, HoldsOk ns.length h) → L.find? (pourB ns st) = some f →
    forL (tmName 4) (C.b_fewest_poured_1 TP) [4] [] (L.map HT) [some (dNet ns), some (ti st), some (.tab TP qC), some (dt (tOf st)), none, none] = .ok (.rt (.vl (HT f)), [some (dNet ns), some (ti st), some (.tab TP qC), some (dt (tOf st)), some (HT f), none])
  | [], _, h => by cases h
  | h :: L, hL, hf => by
    have hh := hL h (by simp)
    have l := poured_ok (XD := HT h) ok hm (.inl rfl) hh
    have q := eq_dt (a := (pourR ns h).1) (b := tOf st) (pourR_case ok hh).sgok (tOf_case hst).sgok
    have eb : decide ((pourR ns h).1 = tOf st) = pourB ns st h := rfl
    rw [eb] at q
    have t : turnF (tmName 4) (C.b_fewest_poured_1 TP) [4] (HT h) [some (dNet ns), some (ti st), some (.tab TP qC), some (dt (tOf st)), none, none] = if pourB ns st h = true then .ok (.rt (.vl (HT h)), [some (dNet ns), some (ti st), some (.tab TP qC), some (dt (tOf st)), some (HT h), none]) else .ok (.nx, [some (dNet ns), some (ti st), some (.tab TP qC), some (dt (tOf st)), none, none]) := by
      have a0 : ∀ x y : D, atI [x, y] 0 = some x := fun _ _ => rfl
      simp only [turnF, C.b_fewest_poured_1]
      generalize HT h = X at l ⊢
      generalize dt (pourR ns h).1 = P1 at *
      generalize D.lst ((pourR ns h).2.map ln') = P2 at *
      generalize dt (tOf st) = T1 at *
      cases e : pourB ns st h <;> rw [e] at q <;> simp [l, ixD, a0, q]
    rw [List.find?_cons] at hf
    cases e : pourB ns st h with
    | true =>
      rw [e] at hf t
      cases hf
      rw [if_pos rfl] at t
      exact for_rt t
    | false =>
      rw [e] at hf t
      rw [if_neg Bool.false_ne_true] at t
      exact for_cons t (fun _ h => by cases h) (fewestP_loop ok hm hst L (fun g hg => hL g (by simp [hg])) hf)
theorem fewest_poured_ok {ns : List RuleT} {most : Nat} {st : List Int} {TP : Addr} (ok : NetOk ns most) (hm : most ≤ 6) (hst : IsSt ns.length st) {f : Hs} (hf : (sortKL (allH st ns.length)).find? (pourB ns st) = some f) :
    C.g_fewest_poured TP [dNet ns, ti st, .tab TP qC] = .ok (.vl (HT f), [none, none, some (.tab TP qC)]) := by
  have hle := ok.le
  have lk := look_stand_any (n := ns.map dRule) (d := ti st) (nd_ti (by rw [hst.len]; omega))
  rw [List.length_map, if_pos (bitsB_ti hst)] at lk
  have lk : C.g_look_at_stand [dNet ns, ti st] = _ := lk
  have ch := choices_ok (TP := TP) hst (by omega)
  have p6 : 2 ^ ns.length ≤ 64 := Nat.le_trans (Nat.pow_le_pow_right (by omega) (show ns.length ≤ 6 by omega)) (by decide)
  have lp := fewestP_loop (TP := TP) ok (by omega) hst _ (fun h hh => (allH_ok hst ((sortKL_perm _).mem_iff.mp hh)).1) hf
  have zL : szOk ((sortKL (allH st ns.length)).map HT).length = true := szOk_of (by rw [List.length_map, (sortKL_perm _).length_eq, allH_len]; omega)
  have cm := comp_map (tm := tmName 5) (t := cYes) (e := C.e_fewest_poured_1 TP) (vs := [5]) (ws := []) (ρ := [some (dNet ns), some (ti st), some (.tab TP qC), none, none, none]) D.int (fun b : Int => dt [48 + b.toNat]) st (fun b hb => by
    have sb := str_bit (hst.bit b hb)
    simp only [turnC, C.e_fewest_poured_1]
    simp [sb])
  have em : st.map (fun b : Int => dt [48 + b.toNat]) = (tOf st).map fun c => dt [c] := by
    unfold tOf
    rw [List.map_map]; rfl
  rw [em] at cm
  have jo := join_dt (f := tOf st) (by rw [(tOf_case hst).len]; omega)
  have zs : szOk st.length = true := szOk_of (by rw [hst.len]; omega)
  have it : itD (ti st) = .ok (st.map D.int) := rfl
  simp only [C.g_fewest_poured, C.m_fewest_poured]
  generalize C.b_fewest_poured_1 TP = B at lp ⊢
  generalize C.e_fewest_poured_1 TP = E1 at cm ⊢
  generalize (sortKL (allH st ns.length)).map HT = L at *
  generalize HT f = F at *
  generalize (tOf st).map (fun c => dt [c]) = TL at *
  generalize dt (tOf st) = T1 at *
  simp [e_fnD, lk, zs, cm, jo, ch, itD, zL, lp, retH]
end H

set_option Elab.async false
set_option linter.all false
set_option maxRecDepth 100000
set_option maxHeartbeats 4000000
namespace H
open PySem PySem.Spec PyProof.Rows L2 Y
theorem min_HD (c0 : Hs) (cs : List Hs) : minHD [.lst ((c0 :: cs).map HD)] = .ok (HD (minHs c0 cs)) := by
  have : (c0 :: cs).map HD = (encH c0 :: cs.map encH).map hdD := by
    have e : HD = fun h => hdD (encH h) := funext HD_enc
    rw [e, List.map_cons, List.map_cons, List.map_map]
    rfl
  rw [this, d_minH, minHs_enc, HD_enc]
theorem refused2_er {N d : D} {TP : Addr} (h : C.g_fewest_poured_n [N, d] = .er "NoStand" []) :
    C.g__law_refused_2 TP [N, d, .tab TP qC] = .ok (.vl (.bl true), [none, none, some (.tab TP qC)]) := by
  have i1 : isErr "NoStand" "NoStand" = true := by decide +kernel
  have x : cXcall C.g_fewest_poured_n (cCons (cVar 0) (cCons (cVar 1) cNil)) [some N, some d, some (.tab TP qC), some (.bl false), none] = .ok (.inr "NoStand", [some N, some d, some (.tab TP qC), some (.bl false), none]) := by
    simp [h]
  have x2 := e_xcT_er (pr := [(2, 2)]) (g := C.g_fewest_poured TP) (t := 2) x
  simp only [C.g__law_refused_2, C.m__law_refused_2, C.w__law_refused_2_1]
  simp [e_fnD, x2, i1, C.h__law_refused_2_1, -e_xcall]
theorem fewestP_bad {ns : List RuleT} {d : D} (hd : Nd 1 d) (hb : bitsB ns.length d = false) : C.g_fewest_poured_n [dNet ns, d] = .er "NoStand" [] := by
  have lk := look_stand_any (n := ns.map dRule) hd
  rw [List.length_map, hb, if_neg Bool.false_ne_true] at lk
  have lk : C.g_look_at_stand [dNet ns, d] = _ := lk
  simp only [C.g_fewest_poured_n, C.m_fewest_poured_n]
  simp [e_fnP, lk]
theorem stand_loop75 {net : List RuleT} {most : Nat} (ok : NetOk net most) (hm : most ≤ 20) {r0 r1 r2 : Option D} {TP : Addr} : ∀ (L : List (List Int)), (∀ x ∈ L, IsSt net.length x) → ∀ (c : Int) (st : List Int), IsSt net.length st → ∃ (c' : Int) (st' : List Int), IsSt net.length st' ∧
    forL (tmName 6) (C.b_law_k75_1 TP) [6] [] (L.map ti) [r0, r1, r2, some (.lst [.int c]), some (dNet net), some (ti st), none, none, none, none, none] = .ok (.nx, [r0, r1, r2, some (.lst [.int c']), some (dNet net), some (ti st'), none, none, none, none, none])
  | [], _, c, st, h => ⟨c, st, h, by simp [forL]⟩
  | x :: L, hL, c, st, h => by
    have hx := hL x (by simp)
    have w := law_wrong_ok (ok.good (by have := ok.le; omega)) hx
    have e1 : eqD (ln' (wrongI net x)) (.lst []) = .ok (.bl (wrongI net x).isEmpty) := by
      rw [eqD_of (n := 2) fit_ln fit_nil, eqP_lst, eqPs_nil]; simp
    have tk := take_ok (n := c) (m := 2) (by omega) (by omega)
    have t : ∃ (c2 : Int) (st2 : List Int), IsSt net.length st2 ∧ turnF (tmName 6) (C.b_law_k75_1 TP) [6] (ti x) [r0, r1, r2, some (.lst [.int c]), some (dNet net), some (ti st), none, none, none, none, none] = .ok (.nx, [r0, r1, r2, some (.lst [.int c2]), some (dNet net), some (ti st2), none, none, none, none, none]) := by
      cases ew : (wrongI net x).isEmpty with
      | false =>
        rw [ew] at e1
        refine ⟨c, st, h, ?_⟩
        simp only [turnF, C.b_law_k75_1]
        generalize ti x = X at *
        generalize ti st = S at *
        simp [w, e1]
      | true =>
        rw [ew] at e1
        by_cases e2 : c % 2 = 1
        · rw [e2] at tk
          refine ⟨c / 2, x, hx, ?_⟩
          simp only [turnF, C.b_law_k75_1]
          generalize ti x = X at *
          generalize ti st = S at *
          simp [w, e1, tk]
        · have e3 : c % 2 = 0 := by omega
          rw [e3] at tk
          refine ⟨c / 2, st, h, ?_⟩
          simp only [turnF, C.b_law_k75_1]
          generalize ti x = X at *
          generalize ti st = S at *
          simp [w, e1, tk]
    obtain ⟨c2, st2, h2, t⟩ := t
    obtain ⟨c3, st3, h3, ih⟩ := stand_loop75 ok hm (r0 := r0) (r1 := r1) (r2 := r2) (TP := TP) L (fun y hy => hL y (by simp [hy])) c2 st2 h2
    exact ⟨c3, st3, h3, for_cons t (fun _ h => by cases h) ih⟩
theorem good_k75 : Y.GoodT C.g_law_k75 qC 63 := fun TP ns hl hb => by
  obtain ⟨M, hM⟩ : ∃ M : Nat, max (1 : Int) (min (ns.length : Int) 2) = M := ⟨(max (1 : Int) (min (ns.length : Int) 2)).toNat, by omega⟩
  have hM4 : M ≤ 2 := by omega
  have h := for_rng (tm := tmName 2) (body := C.b_law_k75_2 TP) (vs := [2, 3, 4, 5, 6, 7, 8, 9]) (ws := []) (n := M) (fun k : Nat => D.int (k : Nat)) (fun _ => [some (.arg ns), some (.tab TP qC), none, none, none, none, none, none, none, none, none]) fun k hk => by
    refine ⟨by simp, ?_⟩
    obtain ⟨b, hbox⟩ := box_ok (ns := ns) (k := k) hb (by omega)
    obtain ⟨net, n', hnet, ok⟩ := net_ok (n := b) (most := 5) (by omega) (by omega)
    have hnet : C.g__law_net [.lst [.int b], .int 5] = _ := hnet
    have hle := ok.le
    have hpos := ok.pos
    obtain ⟨st0, n2, hst0, hs0⟩ := drawn_stand_ok (n := n') (m := net.length) (by omega)
    have ls := law_stands_ok (m := net.length) (by omega)
    have p6 : 2 ^ net.length ≤ 64 := Nat.le_trans (Nat.pow_le_pow_right (by omega) (show net.length ≤ 6 by omega)) (by decide)
    have zs : szOk (stands net.length).length = true := szOk_of (by rw [stands_len]; omega)
    obtain ⟨c3, st, hs, lp⟩ := stand_loop75 ok (by omega) (r0 := some (.arg ns)) (r1 := some (.tab TP qC)) (r2 := some (.int k)) (TP := TP) (stands net.length) (fun x hx => mem_stands.mp hx) n2 st0 hs0
    obtain ⟨f, hf⟩ := poured_find (ns := net) hs
    have fw := fewest_poured_ok (TP := TP) ok (by omega) hs hf
    -- the law's own search
    have ah := all_holds_ok hs (by omega)
    have hH : ∀ h ∈ sortNL (allH st net.length), HoldsOk net.length h := fun h hh => (allH_ok hs ((sortNL_perm _).mem_iff.mp hh)).1
    have lN : (sortNL (allH st net.length)).length ≤ 64 := by rw [(sortNL_perm _).length_eq, allH_len]; exact p6
    have tt := law_text_ok hs (by omega)
    have q1 := comp_filter (tm := tmName 10) (t := C.t_law_k75_1 TP) (e := C.e_law_k75_1 TP) (vs := [10]) (ws := []) (ρ := [some (.arg ns), some (.tab TP qC), some (.int k), some (.lst [.int c3]), some (dNet net), some (ti st), none, none, none, none, none]) HD (pourB net st) HD (sortNL (allH st net.length)) (fun h hh => by
      have hh := hH h hh
      have a := law_poured_ok ok (by omega) hh
      have q := eq_dt (a := (pourR net h).1) (b := tOf st) (pourR_case ok hh).sgok (tOf_case hs).sgok
      have eb : decide ((pourR net h).1 = tOf st) = pourB net st h := rfl
      rw [eb] at q
      have a0 : ∀ x y : D, atI [x, y] 0 = some x := fun _ _ => rfl
      generalize dt (pourR net h).1 = P1 at *
      generalize D.lst ((pourR net h).2.map ln') = P2 at *
      generalize dt (tOf st) = T1 at *
      simp only [turnC, C.t_law_k75_1, C.e_law_k75_1]
      generalize HD h = X at *
      generalize ti st = S at *
      cases e : pourB net st h <;> rw [e] at q <;> simp [a, ixD, a0, tt, q])
    obtain ⟨g0, gs, c0, cs, e1, e2, e3⟩ := first_least hf
    rw [e1] at q1
    have lg : (g0 :: gs).length ≤ 64 := by rw [← e1]; exact Nat.le_trans (List.length_filter_le _ _) lN
    have q2 := comp_filter (tm := tmName 10) (t := C.t_law_k75_2 TP) (e := C.e_law_k75_2 TP) (vs := [10]) (ws := []) (ρ := [some (.arg ns), some (.tab TP qC), some (.int k), some (.lst [.int c3]), some (dNet net), some (ti st), none, some (.lst ((g0 :: gs).map HD)), none, none, none]) HD (fun h => decide (h.length = g0.length)) HD (g0 :: gs) (fun h hh => by
      have a0 : atI ((g0 :: gs).map HD) 0 = some (HD g0) := atI_of (j := 0) rfl rfl
      have l1 : lenD [HD h] = .ok (.int h.length) := by
        show R.ok (D.int ((h.map dH).length : Nat)) = _
        rw [List.length_map]
      have l2 : lenD [HD g0] = .ok (.int g0.length) := by
        show R.ok (D.int ((g0.map dH).length : Nat)) = _
        rw [List.length_map]
      generalize (g0 :: gs).map HD = GL at *
      simp only [turnC, C.t_law_k75_2, C.e_law_k75_2]
      generalize HD h = X at *
      generalize HD g0 = X0 at *
      generalize ti st = S at *
      by_cases e : h.length = g0.length
      · have e' : (h.length : Int) = g0.length := by omega
        simp [ixD, a0, l1, l2, e]
      · have e' : ¬ (h.length : Int) = g0.length := by omega
        simp [ixD, a0, l1, l2, e, e'])
    rw [e2] at q2
    have mn : minHD [.lst ((c0 :: cs).map HD)] = .ok (HD f) := by rw [min_HD, e3]
    have zg : szOk ((g0 :: gs).map HD).length = true := szOk_of (by rw [List.length_map]; omega)
    have zN : szOk ((sortNL (allH st net.length)).map HD).length = true := szOk_of (by rw [List.length_map]; omega)
    have n1 := ne_HTD f
    have nd : noDit (HT f) = true := rfl
    have it2 : Y.isTup (HT f) = true := rfl
    have ad : addD (ti st) (.tup [.int 0]) = .ok (ti (st ++ [0])) := by
      show (if szOk ((st.map D.int).length + 1) = true then R.ok (D.tup (st.map D.int ++ [D.int 0])) else .stk) = _
      rw [if_pos (szOk_of (by rw [List.length_map, hs.len]; omega))]
      simp
    have ls2 : listD [ti st] = .ok (.lst (st.map D.int)) := rfl
    have r1 := refused2_er (TP := TP) (fewestP_bad (ns := net) (d := ti (st ++ [0])) (nd_ti (by simp [hs.len]; omega)) (bitsB_len (by simp [hs.len])))
    have r2 := refused2_er (TP := TP) (fewestP_bad (ns := net) (d := .lst (st.map D.int)) nd_lst rfl)
    have r3 := refused2_er (TP := TP) (fewestP_bad (ns := net) (d := .non) nd_non rfl)
    have zn : szOk net.length = true := szOk_of (by omega)
    simp only [turnF, C.b_law_k75_2]
    generalize C.b_law_k75_1 TP = B at lp ⊢
    generalize C.t_law_k75_1 TP = T1 at q1 ⊢
    generalize C.e_law_k75_1 TP = E1 at q1 ⊢
    generalize C.t_law_k75_2 TP = T2 at q2 ⊢
    generalize C.e_law_k75_2 TP = E2 at q2 ⊢
    generalize (sortNL (allH st net.length)).map HD = L0 at *
    generalize (g0 :: gs).map HD = L1 at *
    generalize (c0 :: cs).map HD = L2 at *
    generalize HT f = F1 at *
    generalize HD f = F2 at *
    generalize D.lst (st.map D.int) = SL at *
    generalize ti (st ++ [0]) = S1 at *
    generalize ti st = S at *
    generalize ti st0 = S0 at *
    simp [hbox, hnet, hst0, ls, itD, zs, zn, lp, ah, zN, q1, zg, q2, mn, fw, n1, nd, it2, ad, ls2, r1, r2, r3, shAt, D.shallow, chkO_ws]
  have rM : rngOk M = true := rngOk_of (by omega) (by omega)
  have zM : szOk M = true := szOk_of (by omega)
  refine ⟨.fr (.bl true), [none, some (.tab TP qC)], ?_, .inl rfl⟩
  simp only [C.g_law_k75, C.m_law_k75]
  generalize C.b_law_k75_2 TP = B at h ⊢
  simp [e_fnD, hM, rM, zM, h]
end H

set_option Elab.async false
set_option linter.all false
set_option maxRecDepth 100000
namespace K75
open PySem PySem.Spec PyProof.Rows L2 Y
def top (i : Nat) : Stmt := PySem.Challenge.pw_switchnets_k75_fewest_poured.main.body.getD i (.Pass ⟨0, 0, 0, 0⟩)
abbrev s_places_in : Stmt := top 5
theorem sc_places_in : FnScope ["signs", "found", "sign", "place"] ["signs"] (defScope s_places_in) := ⟨rfl, rfl, rfl, by decide +kernel, rfl, by decide +kernel, by decide +kernel⟩
abbrev s_bits_for : Stmt := top 6
theorem sc_bits_for : FnScope ["rule", "signs", "place"] ["rule", "signs"] (defScope s_bits_for) := ⟨rfl, rfl, rfl, by decide +kernel, rfl, by decide +kernel, by decide +kernel⟩
abbrev s_bits_in : Stmt := top 7
theorem sc_bits_in : FnScope ["net", "frame", "k", "ear"] ["net", "frame", "k"] (defScope s_bits_in) := ⟨rfl, rfl, rfl, by decide +kernel, rfl, by decide +kernel, by decide +kernel⟩
abbrev s_with_sign : Stmt := top 8
theorem sc_with_sign : FnScope ["frame", "k", "sign"] ["frame", "k", "sign"] (defScope s_with_sign) := ⟨rfl, rfl, rfl, by decide +kernel, rfl, by decide +kernel, by decide +kernel⟩
abbrev s_told_alone : Stmt := top 9
theorem sc_told_alone : FnScope ["net", "frame", "found", "k", "bits"] ["net", "frame"] (defScope s_told_alone) := ⟨rfl, rfl, rfl, by decide +kernel, rfl, by decide +kernel, by decide +kernel⟩
abbrev s_is_whole : Stmt := top 11
theorem sc_is_whole : FnScope ["thing"] ["thing"] (defScope s_is_whole) := ⟨rfl, rfl, rfl, by decide +kernel, rfl, by decide +kernel, by decide +kernel⟩
abbrev s_is_upto : Stmt := top 12
theorem sc_is_upto : FnScope ["thing", "many"] ["thing", "many"] (defScope s_is_upto) := ⟨rfl, rfl, rfl, by decide +kernel, rfl, by decide +kernel, by decide +kernel⟩
abbrev s_are_bits : Stmt := top 13
theorem sc_are_bits : FnScope ["thing", "many", "one"] ["thing", "many"] (defScope s_are_bits) := ⟨rfl, rfl, rfl, by decide +kernel, rfl, by decide +kernel, by decide +kernel⟩
abbrev s_is_stand : Stmt := top 14
theorem sc_is_stand : FnScope ["net", "thing"] ["net", "thing"] (defScope s_is_stand) := ⟨rfl, rfl, rfl, by decide +kernel, rfl, by decide +kernel, by decide +kernel⟩
abbrev s_look_at_stand : Stmt := top 15
theorem sc_look_at_stand : FnScope ["net", "thing"] ["net", "thing"] (defScope s_look_at_stand) := ⟨rfl, rfl, rfl, by decide +kernel, rfl, by decide +kernel, by decide +kernel⟩
abbrev s_are_holds : Stmt := top 17
theorem sc_are_holds : FnScope ["net", "thing", "last", "one"] ["net", "thing"] (defScope s_are_holds) := ⟨rfl, rfl, rfl, by decide +kernel, rfl, by decide +kernel, by decide +kernel⟩
abbrev s_look_at_holds : Stmt := top 18
theorem sc_look_at_holds : FnScope ["net", "thing"] ["net", "thing"] (defScope s_look_at_holds) := ⟨rfl, rfl, rfl, by decide +kernel, rfl, by decide +kernel, by decide +kernel⟩
abbrev s_held_net : Stmt := top 19
theorem sc_held_net : FnScope ["net", "holds", "rules", "k", "bit"] ["net", "holds"] (defScope s_held_net) := ⟨rfl, rfl, rfl, by decide +kernel, rfl, by decide +kernel, by decide +kernel⟩
abbrev s_choices : Stmt := top 20
theorem sc_choices : FnScope ["stand", "%t", "found", "pair", "holds"] ["stand"] (defScope s_choices) := ⟨rfl, rfl, rfl, by decide +kernel, rfl, by decide +kernel, by decide +kernel⟩
abbrev s_frame_of : Stmt := top 22
theorem sc_frame_of : FnScope ["net", "holds", "frame", "k", "bit"] ["net", "holds"] (defScope s_frame_of) := ⟨rfl, rfl, rfl, by decide +kernel, rfl, by decide +kernel, by decide +kernel⟩
abbrev s_poured : Stmt := top 23
theorem sc_poured : FnScope ["net", "holds", "other", "frame", "layers", "found", "k", "bit"] ["net", "holds"] (defScope s_poured) := ⟨rfl, rfl, rfl, by decide +kernel, rfl, by decide +kernel, by decide +kernel⟩
abbrev s_fewest_poured : Stmt := top 24
theorem sc_fewest_poured : FnScope ["net", "stand", "%t", "due", "holds", "bit"] ["net", "stand"] (defScope s_fewest_poured) := ⟨rfl, rfl, rfl, by decide +kernel, rfl, by decide +kernel, by decide +kernel⟩
abbrev s__law_cell : Stmt := top 26
theorem sc__law_cell : FnScope ["script", "k"] ["script", "k"] (defScope s__law_cell) := ⟨rfl, rfl, rfl, by decide +kernel, rfl, by decide +kernel, by decide +kernel⟩
abbrev s__law_mix : Stmt := top 27
theorem sc__law_mix : FnScope ["cell", "k", "number"] ["cell", "k"] (defScope s__law_mix) := ⟨rfl, rfl, rfl, by decide +kernel, rfl, by decide +kernel, by decide +kernel⟩
abbrev s__law_box : Stmt := top 28
theorem sc__law_box : FnScope ["script", "k", "here", "number", "j"] ["script", "k"] (defScope s__law_box) := ⟨rfl, rfl, rfl, by decide +kernel, rfl, by decide +kernel, by decide +kernel⟩
abbrev s__law_take : Stmt := top 29
theorem sc__law_take : FnScope ["box", "many", "left", "digit"] ["box", "many"] (defScope s__law_take) := ⟨rfl, rfl, rfl, by decide +kernel, rfl, by decide +kernel, by decide +kernel⟩
abbrev s__law_rule : Stmt := top 30
theorem sc__law_rule : FnScope ["box", "many", "ears", "size", "number", "mask", "least", "table", "place", "j"] ["box", "many"] (defScope s__law_rule) := ⟨rfl, rfl, rfl, by decide +kernel, rfl, by decide +kernel, by decide +kernel⟩
abbrev s__law_net : Stmt := top 31
theorem sc__law_net : FnScope ["box", "most", "many", "k"] ["box", "most"] (defScope s__law_net) := ⟨rfl, rfl, rfl, by decide +kernel, rfl, by decide +kernel, by decide +kernel⟩
abbrev s__law_stands : Stmt := top 32
theorem sc__law_stands : FnScope ["many", "found", "number", "j"] ["many"] (defScope s__law_stands) := ⟨rfl, rfl, rfl, by decide +kernel, rfl, by decide +kernel, by decide +kernel⟩
abbrev s__law_ought : Stmt := top 33
theorem sc__law_ought : FnScope ["net", "stand", "k", "ears", "table", "place", "ear"] ["net", "stand", "k"] (defScope s__law_ought) := ⟨rfl, rfl, rfl, by decide +kernel, rfl, by decide +kernel, by decide +kernel⟩
abbrev s__law_wrong : Stmt := top 34
theorem sc__law_wrong : FnScope ["net", "stand", "k"] ["net", "stand"] (defScope s__law_wrong) := ⟨rfl, rfl, rfl, by decide +kernel, rfl, by decide +kernel, by decide +kernel⟩
abbrev s__law_drawn_stand : Stmt := top 35
theorem sc__law_drawn_stand : FnScope ["box", "many", "k"] ["box", "many"] (defScope s__law_drawn_stand) := ⟨rfl, rfl, rfl, by decide +kernel, rfl, by decide +kernel, by decide +kernel⟩
abbrev s__law_places : Stmt := top 36
theorem sc__law_places : FnScope ["signs", "found", "sign", "bits", "longer", "place", "bit"] ["signs"] (defScope s__law_places) := ⟨rfl, rfl, rfl, by decide +kernel, rfl, by decide +kernel, by decide +kernel⟩
abbrev s__law_bits : Stmt := top 37
theorem sc__law_bits : FnScope ["net", "frame", "k", "ears", "table", "place", "ear"] ["net", "frame", "k"] (defScope s__law_bits) := ⟨rfl, rfl, rfl, by decide +kernel, rfl, by decide +kernel, by decide +kernel⟩
abbrev s__law_sign : Stmt := top 38
theorem sc__law_sign : FnScope ["frame", "k", "sign"] ["frame", "k", "sign"] (defScope s__law_sign) := ⟨rfl, rfl, rfl, by decide +kernel, rfl, by decide +kernel, by decide +kernel⟩
abbrev s__law_held : Stmt := top 39
theorem sc__law_held : FnScope ["net", "holds", "bits", "found", "k", "rule"] ["net", "holds"] (defScope s__law_held) := ⟨rfl, rfl, rfl, by decide +kernel, rfl, by decide +kernel, by decide +kernel⟩
abbrev s__law_text : Stmt := top 40
theorem sc__law_text : FnScope ["stand", "bit"] ["stand"] (defScope s__law_text) := ⟨rfl, rfl, rfl, by decide +kernel, rfl, by decide +kernel, by decide +kernel⟩
abbrev s__law_all_holds : Stmt := top 41
theorem sc__law_all_holds : FnScope ["stand", "found", "k", "bit", "holds"] ["stand"] (defScope s__law_all_holds) := ⟨rfl, rfl, rfl, by decide +kernel, rfl, by decide +kernel, by decide +kernel⟩
abbrev s__law_poured : Stmt := top 42
theorem sc__law_poured : FnScope ["net", "holds", "other", "frame", "k", "bit", "layers", "later", "bits"] ["net", "holds"] (defScope s__law_poured) := ⟨rfl, rfl, rfl, by decide +kernel, rfl, by decide +kernel, by decide +kernel⟩
abbrev s__law_refused : Stmt := top 43
theorem sc__law_refused : FnScope ["net", "thing", "%t", "found", "e"] ["net", "thing"] (defScope s__law_refused) := ⟨rfl, rfl, rfl, by decide +kernel, rfl, by decide +kernel, by decide +kernel⟩
abbrev s_law : Stmt := top 44
theorem sc_law : FnScope ["script", "%t", "k", "box", "net", "stand", "other", "good", "due", "found", "holds"] ["script"] (defScope s_law) := ⟨rfl, rfl, rfl, by decide +kernel, rfl, by decide +kernel, by decide +kernel⟩
structure Txt (K : PySem.W.Frag) (mg : Str → Option Value) (tc : Addr) : Prop where
  d_places_in : Def K mg "places_in" s_places_in
  d_bits_for : Def K mg "bits_for" s_bits_for
  d_bits_in : Def K mg "bits_in" s_bits_in
  d_with_sign : Def K mg "with_sign" s_with_sign
  d_told_alone : Def K mg "told_alone" s_told_alone
  d_is_whole : Def K mg "is_whole" s_is_whole
  d_is_upto : Def K mg "is_upto" s_is_upto
  d_are_bits : Def K mg "are_bits" s_are_bits
  d_is_stand : Def K mg "is_stand" s_is_stand
  d_look_at_stand : Def K mg "look_at_stand" s_look_at_stand
  d_are_holds : Def K mg "are_holds" s_are_holds
  d_look_at_holds : Def K mg "look_at_holds" s_look_at_holds
  d_held_net : Def K mg "held_net" s_held_net
  d_choices : DefC K mg "choices" s_choices tc
  d_frame_of : Def K mg "frame_of" s_frame_of
  d_poured : Def K mg "poured" s_poured
  d_fewest_poured : Def K mg "fewest_poured" s_fewest_poured
  d__law_cell : Def K mg "_law_cell" s__law_cell
  d__law_mix : Def K mg "_law_mix" s__law_mix
  d__law_box : Def K mg "_law_box" s__law_box
  d__law_take : Def K mg "_law_take" s__law_take
  d__law_rule : Def K mg "_law_rule" s__law_rule
  d__law_net : Def K mg "_law_net" s__law_net
  d__law_stands : Def K mg "_law_stands" s__law_stands
  d__law_ought : Def K mg "_law_ought" s__law_ought
  d__law_wrong : Def K mg "_law_wrong" s__law_wrong
  d__law_drawn_stand : Def K mg "_law_drawn_stand" s__law_drawn_stand
  d__law_places : Def K mg "_law_places" s__law_places
  d__law_bits : Def K mg "_law_bits" s__law_bits
  d__law_sign : Def K mg "_law_sign" s__law_sign
  d__law_held : Def K mg "_law_held" s__law_held
  d__law_text : Def K mg "_law_text" s__law_text
  d__law_all_holds : Def K mg "_law_all_holds" s__law_all_holds
  d__law_poured : Def K mg "_law_poured" s__law_poured
  d__law_refused : Def K mg "_law_refused" s__law_refused
  e_NoHolds : ErrT K mg "NoHolds"
  e_NoStand : ErrT K mg "NoStand"
  z_all : mg "all" = none
  z_bool : mg "bool" = none
  z_dict : mg "dict" = none
  z_divmod : mg "divmod" = none
  z_enumerate : mg "enumerate" = none
  z_int : mg "int" = none
  z_isinstance : mg "isinstance" = none
  z_len : mg "len" = none
  z_list : mg "list" = none
  z_max : mg "max" = none
  z_min : mg "min" = none
  z_range : mg "range" = none
  z_set : mg "set" = none
  z_sorted : mg "sorted" = none
  z_str : mg "str" = none
  z_sum : mg "sum" = none
  z_tuple : mg "tuple" = none
  cat__law_refused_1 : CatF K mg ["NoHolds", "NoStand"] "NetError"
  zz__law_refused_1 : ∀ c ∈ (["NoHolds", "NoStand"] : List Str), ErrZ K mg c
  is__law_refused_1_NoStand : IsF K mg ["NoHolds", "NoStand"] "NoStand" (isErr "NoStand")
section
variable {P : Program} {w : World} {K : PySem.W.Frag} {mg : Str → Option Value} {base : Heap} {tc TP : Addr}
theorem ok_places_in (T : Txt K mg tc) : Glo P w K mg base "places_in" 1 1 [] (pureF C.g_places_in) :=
  (glo_mk (O := []) (Oc := []) (W := []) (U := []) T.d_places_in sc_places_in (fun f cdv A outer s H E P0 hr => (cs_cons (cs_asg (ce_lst (ca_cons ce_int ca_nil)) (cg_name 1 sc_places_in.nd))
    (cs_cons (cs_for (U' := []) (vs := [2]) (passes_of rfl) rfl (ci_any (ce_var 0)) (cg_name 2 sc_places_in.nd) (cs_one (cs_if (ct_cmp (od_eq hr.units) (ce_var 2) ce_str) (cs_one (cs_asg (ce_bin od_add (ce_comp rfl sc_places_in.nd (ci_any (ce_var 1)) (blkOk_by (own := [("place", 3)]) (by kernel_rfl)) (fun P0 s H C cl fp => (cg_name 3 sc_places_in.nd)) (fun s H C cl fp => cts_nil) (fun P0 s H C cl fp => (ce_bin od_mul ce_int (ce_var 3)))) (ce_comp rfl sc_places_in.nd (ci_any (ce_var 1)) (blkOk_by (own := [("place", 3)]) (by kernel_rfl)) (fun P0 s H C cl fp => (cg_name 3 sc_places_in.nd)) (fun s H C cl fp => cts_nil) (fun P0 s H C cl fp => (ce_bin od_add (ce_bin od_mul ce_int (ce_var 3)) ce_int)))) (cg_name 1 sc_places_in.nd))) (cs_one (cs_asgLc (i := 1) rfl sc_places_in.nd rfl rfl (sw_true rfl rfl rfl (by decide +kernel)) (ci_any (ce_var 1)) (blkOk_by (own := [("place", 3)]) (by kernel_rfl)) (fun P0 s H C cl fp => (cg_name 3 sc_places_in.nd)) (fun s H C cl fp => cts_nil) (fun P0 s H C cl fp => (ce_bin od_add (ce_bin od_mul ce_int (ce_var 3)) (ce_callT cd_int T.z_int bo_int (ca_cons (ce_var 2) ca_nil)))))))))
    (cs_one (cs_ret (ce_var 1)))))) (fun _ _ _ _ _ _ us hl => match us, hl with | [_], _ => rfl)).pure
theorem ok_bits_for (T : Txt K mg tc) : Glo P w K mg base "bits_for" 2 2 [] (pureF C.g_bits_for) :=
  (glo_mk (O := []) (Oc := []) (W := []) (U := []) T.d_bits_for sc_bits_for (fun f cdv A outer s H E P0 hr => (cs_one (cs_ret (ce_setSort rfl T.z_sorted T.z_set (ce_comp rfl sc_bits_for.nd (ci_any (ce_call (ok_places_in T) out2_body (hr.mono (by decide)) (ca_cons (ce_var 1) ca_nil) (alen_cons alen_nil))) (blkOk_by (own := [("place", 2)]) (by kernel_rfl)) (fun P0 s H C cl fp => (cg_name 2 sc_bits_for.nd)) (fun s H C cl fp => cts_nil) (fun P0 s H C cl fp => (ce_ix (ce_ix (ce_var 0) ce_int) (ce_var 2)))))))) (fun _ _ _ _ _ _ us hl => match us, hl with | [_, _], _ => rfl)).pure
theorem ok_bits_in (T : Txt K mg tc) : Glo P w K mg base "bits_in" 3 3 [] (pureF C.g_bits_in) :=
  (glo_mk (O := []) (Oc := []) (W := []) (U := []) T.d_bits_in sc_bits_in (fun f cdv A outer s H E P0 hr => (cs_one (cs_ret (ce_call (ok_bits_for T) out2_body (hr.mono (by decide)) (ca_cons (ce_ix (ce_var 0) (ce_var 2)) (ca_cons (ce_comp rfl sc_bits_in.nd (ci_any (ce_ix (ce_ix (ce_var 0) (ce_var 2)) ce_int)) (blkOk_by (own := [("ear", 3)]) (by kernel_rfl)) (fun P0 s H C cl fp => (cg_name 3 sc_bits_in.nd)) (fun s H C cl fp => cts_nil) (fun P0 s H C cl fp => (ce_ix (ce_var 1) (ce_var 3)))) ca_nil)) (alen_cons (alen_cons alen_nil)))))) (fun _ _ _ _ _ _ us hl => match us, hl with | [_, _, _], _ => rfl)).pure
theorem ok_with_sign (T : Txt K mg tc) : Glo P w K mg base "with_sign" 1 3 [] (pureF C.g_with_sign) :=
  (glo_mk (O := []) (Oc := []) (W := []) (U := []) T.d_with_sign sc_with_sign (fun f cdv A outer s H E P0 hr => (cs_one (cs_ret (ce_bin od_add (ce_bin od_add (ce_slice (ce_var 0) co_none (co_some (ce_var 1))) (ce_var 2)) (ce_slice (ce_var 0) (co_some (ce_bin od_add (ce_var 1) ce_int)) co_none))))) (fun _ _ _ _ _ _ us hl => match us, hl with | [_, _, _], _ => rfl)).pure
theorem ok_told_alone (T : Txt K mg tc) : Glo P w K mg base "told_alone" 4 2 [] (pureF C.g_told_alone) :=
  (glo_mk (O := []) (Oc := [2]) (W := []) (U := []) T.d_told_alone sc_told_alone (fun f cdv A outer s H E P0 hr => (cs_cons (cs_dicnew (i := 2) sc_told_alone.nd)
    (cs_cons (cs_for (U' := []) (vs := [3, 4]) (passes_of rfl) rfl (ci_range1 T.z_range (ca_cons (ce_callB cd_len T.z_len bo_len (ca_cons (ce_var 0) ca_nil)) ca_nil)) (cg_name 3 sc_told_alone.nd) (cs_cons (cs_asg (ce_call (ok_bits_in T) out2_body (hr.mono (by decide)) (ca_cons (ce_var 0) (ca_cons (ce_var 1) (ca_cons (ce_var 3) ca_nil))) (alen_cons (alen_cons (alen_cons alen_nil)))) (cg_name 4 sc_told_alone.nd))
    (cs_one (cs_if (ct_w (cw_and (ct_cmp (od_eq hr.units) (ce_ix (ce_var 1) (ce_var 3)) ce_str) (cw_and1 (ct_cmp (od_eq hr.units) (ce_callB cd_len T.z_len bo_len (ca_cons (ce_var 4) ca_nil)) ce_int)))) (cs_one (cs_dput (i := 2) (Nat.lt_of_le_of_lt (Nat.add_le_add_left (by decide) _) hr.units65) (ce_ix (ce_var 4) ce_int) (ce_var 3))) cs_nil))))
    (cs_one (cs_ret (ce_own 2)))))) (fun _ _ _ _ _ _ us hl => match us, hl with | [_, _], _ => rfl)).pure
theorem ok_is_whole (T : Txt K mg tc) : Glo P w K mg base "is_whole" 1 1 [] (pureF C.g_is_whole) :=
  (glo_mk (O := []) (Oc := []) (W := []) (U := []) T.d_is_whole sc_is_whole (fun f cdv A outer s H E P0 hr => (cs_one (cs_ret (ce_and (ce_isi isk_int T.z_isinstance T.z_int (ce_var 0) bo_isinstance bo_int) (ce_one (ce_not (ce_isi isk_bool T.z_isinstance T.z_bool (ce_var 0) bo_isinstance bo_bool))))))) (fun _ _ _ _ _ _ us hl => match us, hl with | [_], _ => rfl)).pure
theorem ok_is_upto (T : Txt K mg tc) : Glo P w K mg base "is_upto" 2 2 [] (pureF C.g_is_upto) :=
  (glo_mk (O := []) (Oc := []) (W := []) (U := []) T.d_is_upto sc_is_upto (fun f cdv A outer s H E P0 hr => (cs_one (cs_ret (ce_and (ce_call (ok_is_whole T) out2_body (hr.mono (by decide)) (ca_cons (ce_var 0) ca_nil) (alen_cons alen_nil)) (ce_one (ce_chain od_le od_lt ce_int (ce_var 0) (ce_var 1))))))) (fun _ _ _ _ _ _ us hl => match us, hl with | [_, _], _ => rfl)).pure
theorem ok_are_bits (T : Txt K mg tc) : Glo P w K mg base "are_bits" 3 2 [] (pureF C.g_are_bits) :=
  (glo_mk (O := []) (Oc := []) (W := []) (U := []) T.d_are_bits sc_are_bits (fun f cdv A outer s H E P0 hr => (cs_one (cs_ret (ce_and (ce_isi isk_tuple T.z_isinstance T.z_tuple (ce_var 0) bo_isinstance bo_tuple) (ce_and (ce_cmp (od_eq hr.units) (ce_callB cd_len T.z_len bo_len (ca_cons (ce_var 0) ca_nil)) (ce_var 1)) (ce_one (ce_callB (cd_all rfl) T.z_all bo_all (ca_cons (ce_comp rfl sc_are_bits.nd (ci_any (ce_var 0)) (blkOk_by (own := [("one", 2)]) (by kernel_rfl)) (fun P0 s H C cl fp => (cg_name 2 sc_are_bits.nd)) (fun s H C cl fp => cts_nil) (fun P0 s H C cl fp => (ce_call (ok_is_upto T) Out2.blk (hr.mono (by decide)) (ca_cons (ce_var 2) (ca_cons ce_int ca_nil)) (alen_cons (alen_cons alen_nil))))) ca_nil)))))))) (fun _ _ _ _ _ _ us hl => match us, hl with | [_, _], _ => rfl)).pure
theorem ok_is_stand (T : Txt K mg tc) : Glo P w K mg base "is_stand" 4 2 [] (pureF C.g_is_stand) :=
  (glo_mk (O := []) (Oc := []) (W := []) (U := []) T.d_is_stand sc_is_stand (fun f cdv A outer s H E P0 hr => (cs_one (cs_ret (ce_call (ok_are_bits T) out2_body (hr.mono (by decide)) (ca_cons (ce_var 1) (ca_cons (ce_callB cd_len T.z_len bo_len (ca_cons (ce_var 0) ca_nil)) ca_nil)) (alen_cons (alen_cons alen_nil)))))) (fun _ _ _ _ _ _ us hl => match us, hl with | [_, _], _ => rfl)).pure
theorem ok_look_at_stand (T : Txt K mg tc) : Glo P w K mg base "look_at_stand" 5 2 [] (pureF C.g_look_at_stand) :=
  (glo_mk (O := []) (Oc := []) (W := []) (U := []) T.d_look_at_stand sc_look_at_stand (fun f cdv A outer s H E P0 hr => (cs_one (cs_if (ct_not (ct_val (ce_call (ok_is_stand T) out2_body (hr.mono (by decide)) (ca_cons (ce_var 0) (ca_cons (ce_var 1) ca_nil)) (alen_cons (alen_cons alen_nil))))) (cs_one (cs_raise T.e_NoStand rfl (L2N.takes_of rfl rfl rfl rfl))) cs_nil))) (fun _ _ _ _ _ _ us hl => match us, hl with | [_, _], _ => rfl)).pure
theorem ok_are_holds (T : Txt K mg tc) : Glo P w K mg base "are_holds" 3 2 [] (pureF C.g_are_holds) :=
  (glo_mk (O := []) (Oc := []) (W := []) (U := []) T.d_are_holds sc_are_holds (fun f cdv A outer s H E P0 hr => (cs_cons (cs_if (ct_not (ct_val (ce_isi isk_tuple T.z_isinstance T.z_tuple (ce_var 1) bo_isinstance bo_tuple))) (cs_one (cs_ret ce_bl)) cs_nil)
    (cs_cons (cs_asg (ce_neg ce_int) (cg_name 2 sc_are_holds.nd))
    (cs_cons (cs_for (U' := []) (vs := [3]) (passes_of rfl) rfl (ci_any (ce_var 1)) (cg_name 3 sc_are_holds.nd) (cs_cons (cs_if (ct_w (cw_or (ct_not (ct_val (ce_isi isk_tuple T.z_isinstance T.z_tuple (ce_var 3) bo_isinstance bo_tuple))) (cw_or (ct_cmp (od_ne hr.units) (ce_callB cd_len T.z_len bo_len (ca_cons (ce_var 3) ca_nil)) ce_int) (cw_or (ct_not (ct_val (ce_call (ok_is_upto T) out2_body (hr.mono (by decide)) (ca_cons (ce_ix (ce_var 3) ce_int) (ca_cons (ce_callB cd_len T.z_len bo_len (ca_cons (ce_var 0) ca_nil)) ca_nil)) (alen_cons (alen_cons alen_nil))))) (cw_or1 (ct_not (ct_val (ce_call (ok_is_upto T) out2_body (hr.mono (by decide)) (ca_cons (ce_ix (ce_var 3) ce_int) (ca_cons ce_int ca_nil)) (alen_cons (alen_cons alen_nil)))))))))) (cs_one (cs_ret ce_bl)) cs_nil)
    (cs_cons (cs_if (ct_cmp od_le (ce_ix (ce_var 3) ce_int) (ce_var 2)) (cs_one (cs_ret ce_bl)) cs_nil)
    (cs_one (cs_asg (ce_ix (ce_var 3) ce_int) (cg_name 2 sc_are_holds.nd))))))
    (cs_one (cs_ret ce_bl)))))) (fun _ _ _ _ _ _ us hl => match us, hl with | [_, _], _ => rfl)).pure
theorem ok_look_at_holds (T : Txt K mg tc) : Glo P w K mg base "look_at_holds" 4 2 [] (pureF C.g_look_at_holds) :=
  (glo_mk (O := []) (Oc := []) (W := []) (U := []) T.d_look_at_holds sc_look_at_holds (fun f cdv A outer s H E P0 hr => (cs_one (cs_if (ct_not (ct_val (ce_call (ok_are_holds T) out2_body (hr.mono (by decide)) (ca_cons (ce_var 0) (ca_cons (ce_var 1) ca_nil)) (alen_cons (alen_cons alen_nil))))) (cs_one (cs_raise T.e_NoHolds rfl (L2N.takes_of rfl rfl rfl rfl))) cs_nil))) (fun _ _ _ _ _ _ us hl => match us, hl with | [_, _], _ => rfl)).pure
theorem ok_held_net (T : Txt K mg tc) : Glo P w K mg base "held_net" 5 2 [] (pureF C.g_held_net) :=
  (glo_mk (O := []) (Oc := [2]) (W := []) (U := []) T.d_held_net sc_held_net (fun f cdv A outer s H E P0 hr => (cs_cons (cs_expr (ce_call (ok_look_at_holds T) out2_body (hr.mono (by decide)) (ca_cons (ce_var 0) (ca_cons (ce_var 1) ca_nil)) (alen_cons (alen_cons alen_nil))))
    (cs_cons (cs_own (i := 2) sc_held_net.nd (ce_callT cd_list T.z_list bo_list (ca_cons (ce_var 0) ca_nil)))
    (cs_cons (cs_for (U' := []) (vs := [3, 4]) (passes_of rfl) rfl (ci_any (ce_var 1)) (cg_tup [3, 4] rfl (cgs_cons 3 sc_held_net.nd (cgs_cons 4 sc_held_net.nd cgs_nil))) (cs_one (cs_setix (i := 2) (ce_tup (ca_cons (ce_tup ca_nil) (ca_cons (ce_tup (ca_cons (ce_var 4) ca_nil)) ca_nil))) (ce_var 3))))
    (cs_one (cs_ret (ce_callT cd_tuple T.z_tuple bo_tuple (ca_cons (ce_own 2) ca_nil)))))))) (fun _ _ _ _ _ _ us hl => match us, hl with | [_, _], _ => rfl)).pure
theorem ok_choices (T : Txt K mg tc) (TB : LamX.TabB base mg tc TP) : GloT P w K mg base "choices" 1 1 [1] (C.g_choices TP) :=
  gloT_mkC (O := [1]) (Oc := [1]) (W := [1]) (U := [1]) T.d_choices sc_choices rfl (by decide +kernel) (fun f A outer s H E P0 hr => (cs_cons (cs_asg (ce_lst (ca_cons (ce_tup ca_nil) ca_nil)) (cg_name 2 sc_choices.nd))
    (cs_cons (cs_for (U' := [1]) (vs := [3]) (passes_of rfl) rfl (ci_enumN T.z_enumerate (ca_cons (ce_var 0) ca_nil)) (cg_name 3 sc_choices.nd) (cs_one (cs_asg (ce_bin od_add (ce_var 2) (ce_comp rfl sc_choices.nd (ci_any (ce_var 2)) (blkOk_by (own := [("holds", 4)]) (by kernel_rfl)) (fun P0 s H C cl fp => (cg_name 4 sc_choices.nd)) (fun s H C cl fp => cts_nil) (fun P0 s H C cl fp => (ce_bin od_add (ce_var 4) (ce_tup (ca_cons (ce_var 3) ca_nil)))))) (cg_name 2 sc_choices.nd))))
    (cs_one (cs_ret (ce_sortL (t := 1) (q := "choices.<locals>.<lambda>") T.z_sorted T.z_len bo_sorted (ce_var 2) TB rfl hr rfl)))))) (fun _ _ _ _ _ _ us hl => match us, hl with | [_], _ => rfl)
theorem ok_frame_of (T : Txt K mg tc) : Glo P w K mg base "frame_of" 2 2 [] (pureF C.g_frame_of) :=
  (glo_mk (O := []) (Oc := []) (W := []) (U := []) T.d_frame_of sc_frame_of (fun f cdv A outer s H E P0 hr => (cs_cons (cs_asg (ce_bin od_mul ce_str (ce_callB cd_len T.z_len bo_len (ca_cons (ce_var 0) ca_nil))) (cg_name 2 sc_frame_of.nd))
    (cs_cons (cs_for (U' := []) (vs := [3, 4]) (passes_of rfl) rfl (ci_any (ce_var 1)) (cg_tup [3, 4] rfl (cgs_cons 3 sc_frame_of.nd (cgs_cons 4 sc_frame_of.nd cgs_nil))) (cs_one (cs_asg (ce_call (ok_with_sign T) out2_body (hr.mono (by decide)) (ca_cons (ce_var 2) (ca_cons (ce_var 3) (ca_cons (ce_callT cd_str T.z_str bo_str (ca_cons (ce_var 4) ca_nil)) ca_nil))) (alen_cons (alen_cons (alen_cons alen_nil)))) (cg_name 2 sc_frame_of.nd))))
    (cs_one (cs_ret (ce_var 2)))))) (fun _ _ _ _ _ _ us hl => match us, hl with | [_, _], _ => rfl)).pure
theorem ok_poured (T : Txt K mg tc) : Glo P w K mg base "poured" 6 2 [] (pureF C.g_poured) :=
  (glo_mk (O := []) (Oc := []) (W := []) (U := []) T.d_poured sc_poured (fun f cdv A outer s H E P0 hr => (cs_cons (cs_asg (ce_call (ok_held_net T) out2_body (hr.mono (by decide)) (ca_cons (ce_var 0) (ca_cons (ce_var 1) ca_nil)) (alen_cons (alen_cons alen_nil))) (cg_name 2 sc_poured.nd))
    (cs_cons (cs_asg (ce_call (ok_frame_of T) out2_body (hr.mono (by decide)) (ca_cons (ce_var 0) (ca_cons (ce_var 1) ca_nil)) (alen_cons (alen_cons alen_nil))) (cg_name 3 sc_poured.nd))
    (cs_growL (i := 4) sc_poured.nd (ca_cons (ce_comp rfl sc_poured.nd (ci_any (ce_var 1)) (blkOk_by (own := [("k", 6), ("bit", 7)]) (by kernel_rfl)) (fun P0 s H C cl fp => (cg_tup [6, 7] rfl (cgs_cons 6 sc_poured.nd (cgs_cons 7 sc_poured.nd cgs_nil)))) (fun s H C cl fp => cts_nil) (fun P0 s H C cl fp => (ce_var 6))) ca_nil) (cs_asg (ce_call (ok_told_alone T) out2_body (hr.mono (by decide)) (ca_cons (ce_var 2) (ca_cons (ce_var 3) ca_nil)) (alen_cons (alen_cons alen_nil))) (cg_name 5 sc_poured.nd)) (cs_while (vs := [6, 7]) (passes_of rfl) (ct_cmp (od_neZ (Nat.lt_of_le_of_lt (Nat.le_add_right _ _) hr.units65)) (ce_var 5) ce_dic0) (cs_cons (cs_forItems (i := 5) (U' := []) (vs := [6, 7]) (passes_of rfl) rfl (cg_tup [6, 7] rfl (cgs_cons 6 sc_poured.nd (cgs_cons 7 sc_poured.nd cgs_nil))) (cs_one (cs_asg (ce_call (ok_with_sign T) out2_body (hr.mono (by decide)) (ca_cons (ce_var 3) (ca_cons (ce_var 6) (ca_cons (ce_callT cd_str T.z_str bo_str (ca_cons (ce_var 7) ca_nil)) ca_nil))) (alen_cons (alen_cons (alen_cons alen_nil)))) (cg_name 3 sc_poured.nd))))
    (cs_cons (cs_append (i := 4) (ce_callB (cd_sortDD rfl) T.z_sorted bo_sorted (ca_cons (ce_var 5) ca_nil)))
    (cs_one (cs_asg (ce_call (ok_told_alone T) out2_body (hr.mono (by decide)) (ca_cons (ce_var 2) (ca_cons (ce_var 3) ca_nil)) (alen_cons (alen_cons alen_nil))) (cg_name 5 sc_poured.nd)))))) (cs_one (cs_ret (ce_tup (ca_cons (ce_var 3) (ca_cons (ce_var 4) ca_nil))))))))) (fun _ _ _ _ _ _ us hl => match us, hl with | [_, _], _ => rfl)).pure
theorem ok_fewest_poured (T : Txt K mg tc) (TB : LamX.TabB base mg tc TP) : GloT P w K mg base "fewest_poured" 7 2 [2] (C.g_fewest_poured TP) :=
  gloT_mk (O := [2]) (Oc := [2]) (W := [2]) (U := [2]) T.d_fewest_poured sc_fewest_poured rfl (by decide +kernel) (fun f cdv A outer s H E P0 hr => (cs_cons (cs_expr (ce_call (ok_look_at_stand T) out2_body (hr.mono (by decide)) (ca_cons (ce_var 0) (ca_cons (ce_var 1) ca_nil)) (alen_cons (alen_cons alen_nil))))
    (cs_cons (cs_asg (ce_join ce_str (ce_comp rfl sc_fewest_poured.nd (ci_any (ce_var 1)) (blkOk_by (own := [("bit", 5)]) (by kernel_rfl)) (fun P0 s H C cl fp => (cg_name 5 sc_fewest_poured.nd)) (fun s H C cl fp => cts_nil) (fun P0 s H C cl fp => (ce_callT cd_str T.z_str bo_str (ca_cons (ce_var 5) ca_nil))))) (cg_name 3 sc_fewest_poured.nd))
    (cs_cons (cs_for (U' := [2]) (vs := [4]) (passes_of rfl) rfl (ci_any (ce_callTb (ok_choices T TB) [(1, 2)] 2 out2_body (hr.mono (by decide)) (ca_cons (ce_var 1) ca_nil) (alen_cons alen_nil))) (cg_name 4 sc_fewest_poured.nd) (cs_one (cs_if (ct_cmp (od_eq hr.units) (ce_ix (ce_call (ok_poured T) out2_body (hr.mono (by decide)) (ca_cons (ce_var 0) (ca_cons (ce_var 4) ca_nil)) (alen_cons (alen_cons alen_nil))) ce_int) (ce_var 3)) (cs_one (cs_ret (ce_var 4))) cs_nil)))
    (cs_one (cs_ret ce_non)))))) (fun _ _ _ _ _ _ us hl => match us, hl with | [_, _], _ => rfl)
theorem ok__law_cell (T : Txt K mg tc) : Glo P w K mg base "_law_cell" 1 2 [] (pureF C.g__law_cell) :=
  (glo_mk (O := []) (Oc := []) (W := []) (U := []) T.d__law_cell sc__law_cell (fun f cdv A outer s H E P0 hr => (cs_cons (cs_if (ct_cmp od_lt (ce_var 1) (ce_callB cd_len T.z_len bo_len (ca_cons (ce_var 0) ca_nil))) (cs_one (cs_ret (ce_ix (ce_var 0) (ce_var 1)))) cs_nil)
    (cs_one (cs_ret (ce_bin od_add (ce_bin od_mul ce_int (ce_var 1)) ce_int))))) (fun _ _ _ _ _ _ us hl => match us, hl with | [_, _], _ => rfl)).pure
theorem ok__law_mix (T : Txt K mg tc) : Glo P w K mg base "_law_mix" 1 2 [] (pureF C.g__law_mix) :=
  (glo_mk (O := []) (Oc := []) (W := []) (U := []) T.d__law_mix sc__law_mix (fun f cdv A outer s H E P0 hr => (cs_cons (cs_asg (ce_bin od_add (ce_bin od_mul (ce_bin od_add (ce_var 0) ce_int) ce_int) (ce_bin od_mul ce_int (ce_var 1))) (cg_name 2 sc__law_mix.nd))
    (cs_cons (cs_asg (ce_bin od_add (ce_bin od_mod (ce_bin od_mul (ce_var 2) (ce_var 2)) ce_int) (ce_var 1)) (cg_name 2 sc__law_mix.nd))
    (cs_one (cs_ret (ce_bin od_mod (ce_bin od_mul (ce_var 2) (ce_bin od_add (ce_var 2) ce_int)) ce_int)))))) (fun _ _ _ _ _ _ us hl => match us, hl with | [_, _], _ => rfl)).pure
theorem ok__law_box (T : Txt K mg tc) : Glo P w K mg base "_law_box" 2 2 [] (pureF C.g__law_box) :=
  (glo_mk (O := []) (Oc := []) (W := []) (U := []) T.d__law_box sc__law_box (fun f cdv A outer s H E P0 hr => (cs_cons (cs_asg (ce_call (ok__law_cell T) out2_body (hr.mono (by decide)) (ca_cons (ce_var 0) (ca_cons (ce_var 1) ca_nil)) (alen_cons (alen_cons alen_nil))) (cg_name 2 sc__law_box.nd))
    (cs_cons (cs_if (ct_cmp (od_eq hr.units) (ce_bin od_mod (ce_var 2) ce_int) ce_int) (cs_one (cs_ret (ce_lst (ca_cons (ce_bin od_fdiv (ce_var 2) ce_int) ca_nil)))) cs_nil)
    (cs_cons (cs_asg ce_int (cg_name 3 sc__law_box.nd))
    (cs_cons (cs_for (U' := []) (vs := [4]) (passes_of rfl) rfl (ci_range1 T.z_range (ca_cons ce_int ca_nil)) (cg_name 4 sc__law_box.nd) (cs_one (cs_asg (ce_bin od_add (ce_bin od_mul (ce_var 3) ce_int) (ce_call (ok__law_mix T) out2_body (hr.mono (by decide)) (ca_cons (ce_var 2) (ca_cons (ce_var 4) ca_nil)) (alen_cons (alen_cons alen_nil)))) (cg_name 3 sc__law_box.nd))))
    (cs_one (cs_ret (ce_lst (ca_cons (ce_var 3) ca_nil))))))))) (fun _ _ _ _ _ _ us hl => match us, hl with | [_, _], _ => rfl)).pure
theorem ok__law_take (T : Txt K mg tc) : Glo P w K mg base "_law_take" 1 2 [0] C.g__law_take :=
  (glo_mk (O := [0]) (Oc := [0]) (W := []) (U := [0]) T.d__law_take sc__law_take (fun f cdv A outer s H E P0 hr => (cs_cons (cs_asg (ce_callB cd_divmod T.z_divmod bo_divmod (ca_cons (ce_ix (ce_own 0) ce_int) (ca_cons (ce_var 1) ca_nil))) (cg_tup [2, 3] rfl (cgs_cons 2 sc__law_take.nd (cgs_cons 3 sc__law_take.nd cgs_nil))))
    (cs_cons (cs_setix (i := 0) (ce_var 2) ce_int)
    (cs_one (cs_ret (ce_var 3)))))) (fun _ _ _ _ _ _ us hl => match us, hl with | [_, _], _ => rfl))
theorem ok__law_rule (T : Txt K mg tc) : Glo P w K mg base "_law_rule" 2 2 [0] C.g__law_rule :=
  (glo_mk (O := [0]) (Oc := [0, 7]) (W := [0]) (U := [0]) T.d__law_rule sc__law_rule (fun f cdv A outer s H E P0 hr => (cs_cons (cs_asg (ce_callT cd_tuple T.z_tuple bo_tuple (ca_cons (ce_slice (ce_comp rfl sc__law_rule.nd (ci_range1 T.z_range (ca_cons (ce_var 1) ca_nil)) (blkOk_by (own := [("j", 9)]) (by kernel_rfl)) (fun P0 s H C cl fp => (cg_name 9 sc__law_rule.nd)) (fun s H C cl fp => (cts_one fun P0 => (ct_cmp (od_eq hr.units) (ce_callIO (ok__law_take T) [(0, 0)] Out2.blk (hr.mono (by decide)) (ca_cons (ce_own 0) (ca_cons ce_int ca_nil)) (alen_cons (alen_cons alen_nil))) ce_int))) (fun P0 s H C cl fp => (ce_var 9))) co_none (co_some ce_int)) ca_nil)) (cg_name 2 sc__law_rule.nd))
    (cs_cons (cs_asg (ce_bin od_shl ce_int (ce_callB cd_len T.z_len bo_len (ca_cons (ce_var 2) ca_nil))) (cg_name 3 sc__law_rule.nd))
    (cs_cons (cs_if (ct_cmp od_gt (ce_callIO (ok__law_take T) [(0, 0)] out2_body (hr.mono (by decide)) (ca_cons (ce_own 0) (ca_cons ce_int ca_nil)) (alen_cons (alen_cons alen_nil))) ce_int) (cs_cons (cs_asg (ce_callIO (ok__law_take T) [(0, 0)] out2_body (hr.mono (by decide)) (ca_cons (ce_own 0) (ca_cons (ce_bin od_shl ce_int (ce_var 3)) ca_nil)) (alen_cons (alen_cons alen_nil))) (cg_name 4 sc__law_rule.nd))
    (cs_one (cs_ret (ce_tup (ca_cons (ce_var 2) (ca_cons (ce_callT cd_tuple T.z_tuple bo_tuple (ca_cons (ce_comp rfl sc__law_rule.nd (ci_range1 T.z_range (ca_cons (ce_var 3) ca_nil)) (blkOk_by (own := [("place", 8)]) (by kernel_rfl)) (fun P0 s H C cl fp => (cg_name 8 sc__law_rule.nd)) (fun s H C cl fp => cts_nil) (fun P0 s H C cl fp => (ce_bin od_and (ce_bin od_shr (ce_var 4) (ce_var 8)) ce_int))) ca_nil)) ca_nil)))))) cs_nil)
    (cs_cons (cs_asg (ce_callIO (ok__law_take T) [(0, 0)] out2_body (hr.mono (by decide)) (ca_cons (ce_own 0) (ca_cons (ce_var 3) ca_nil)) (alen_cons (alen_cons alen_nil))) (cg_name 5 sc__law_rule.nd))
    (cs_cons (cs_asg (ce_callIO (ok__law_take T) [(0, 0)] out2_body (hr.mono (by decide)) (ca_cons (ce_own 0) (ca_cons (ce_bin od_add (ce_callB cd_len T.z_len bo_len (ca_cons (ce_var 2) ca_nil)) ce_int) ca_nil)) (alen_cons (alen_cons alen_nil))) (cg_name 6 sc__law_rule.nd))
    (cs_cons (cs_own (i := 7) sc__law_rule.nd (ce_lst ca_nil))
    (cs_cons (cs_for (U' := [0]) (vs := [8]) (passes_of rfl) rfl (ci_range1 T.z_range (ca_cons (ce_var 3) ca_nil)) (cg_name 8 sc__law_rule.nd) (cs_one (cs_append (i := 7) (ce_callT cd_int T.z_int bo_int (ca_cons (ce_cmp od_ge (ce_callB (cd_sum rfl) T.z_sum bo_sum (ca_cons (ce_comp rfl sc__law_rule.nd (ci_range1 T.z_range (ca_cons (ce_callB cd_len T.z_len bo_len (ca_cons (ce_var 2) ca_nil)) ca_nil)) (blkOk_by (own := [("j", 9)]) (by kernel_rfl)) (fun P0 s H C cl fp => (cg_name 9 sc__law_rule.nd)) (fun s H C cl fp => cts_nil) (fun P0 s H C cl fp => (ce_bin od_and (ce_bin od_shr (ce_bin od_xor (ce_var 8) (ce_var 5)) (ce_var 9)) ce_int))) ca_nil)) (ce_var 6)) ca_nil)))))
    (cs_one (cs_ret (ce_tup (ca_cons (ce_var 2) (ca_cons (ce_callT cd_tuple T.z_tuple bo_tuple (ca_cons (ce_own 7) ca_nil)) ca_nil))))))))))))) (fun _ _ _ _ _ _ us hl => match us, hl with | [_, _], _ => rfl))
theorem ok__law_net (T : Txt K mg tc) : Glo P w K mg base "_law_net" 3 2 [0] C.g__law_net :=
  (glo_mk (O := [0]) (Oc := [0]) (W := [0]) (U := [0]) T.d__law_net sc__law_net (fun f cdv A outer s H E P0 hr => (cs_cons (cs_asg (ce_bin od_add ce_int (ce_callIO (ok__law_take T) [(0, 0)] out2_body (hr.mono (by decide)) (ca_cons (ce_own 0) (ca_cons (ce_var 1) ca_nil)) (alen_cons (alen_cons alen_nil)))) (cg_name 2 sc__law_net.nd))
    (cs_one (cs_ret (ce_callT cd_tuple T.z_tuple bo_tuple (ca_cons (ce_comp rfl sc__law_net.nd (ci_range1 T.z_range (ca_cons (ce_var 2) ca_nil)) (blkOk_by (own := [("k", 3)]) (by kernel_rfl)) (fun P0 s H C cl fp => (cg_name 3 sc__law_net.nd)) (fun s H C cl fp => cts_nil) (fun P0 s H C cl fp => (ce_callIO (ok__law_rule T) [(0, 0)] Out2.blk (hr.mono (by decide)) (ca_cons (ce_own 0) (ca_cons (ce_var 2) ca_nil)) (alen_cons (alen_cons alen_nil))))) ca_nil)))))) (fun _ _ _ _ _ _ us hl => match us, hl with | [_, _], _ => rfl))
theorem ok__law_stands (T : Txt K mg tc) : Glo P w K mg base "_law_stands" 1 1 [] (pureF C.g__law_stands) :=
  (glo_mk (O := []) (Oc := [1]) (W := []) (U := []) T.d__law_stands sc__law_stands (fun f cdv A outer s H E P0 hr => (cs_cons (cs_own (i := 1) sc__law_stands.nd (ce_lst ca_nil))
    (cs_cons (cs_for (U' := []) (vs := [2]) (passes_of rfl) rfl (ci_range1 T.z_range (ca_cons (ce_bin od_shl ce_int (ce_var 0)) ca_nil)) (cg_name 2 sc__law_stands.nd) (cs_one (cs_append (i := 1) (ce_callT cd_tuple T.z_tuple bo_tuple (ca_cons (ce_comp rfl sc__law_stands.nd (ci_range1 T.z_range (ca_cons (ce_var 0) ca_nil)) (blkOk_by (own := [("j", 3)]) (by kernel_rfl)) (fun P0 s H C cl fp => (cg_name 3 sc__law_stands.nd)) (fun s H C cl fp => cts_nil) (fun P0 s H C cl fp => (ce_bin od_and (ce_bin od_shr (ce_var 2) (ce_bin od_sub (ce_bin od_sub (ce_var 0) ce_int) (ce_var 3))) ce_int))) ca_nil)))))
    (cs_one (cs_ret (ce_own 1)))))) (fun _ _ _ _ _ _ us hl => match us, hl with | [_], _ => rfl)).pure
theorem ok__law_ought (T : Txt K mg tc) : Glo P w K mg base "_law_ought" 1 3 [] (pureF C.g__law_ought) :=
  (glo_mk (O := []) (Oc := []) (W := []) (U := []) T.d__law_ought sc__law_ought (fun f cdv A outer s H E P0 hr => (cs_cons (cs_asg (ce_ix (ce_var 0) (ce_var 2)) (cg_tup [3, 4] rfl (cgs_cons 3 sc__law_ought.nd (cgs_cons 4 sc__law_ought.nd cgs_nil))))
    (cs_cons (cs_asg ce_int (cg_name 5 sc__law_ought.nd))
    (cs_cons (cs_for (U' := []) (vs := [6]) (passes_of rfl) rfl (ci_any (ce_var 3)) (cg_name 6 sc__law_ought.nd) (cs_one (cs_asg (ce_bin od_add (ce_bin od_mul (ce_var 5) ce_int) (ce_ix (ce_var 1) (ce_var 6))) (cg_name 5 sc__law_ought.nd))))
    (cs_one (cs_ret (ce_ix (ce_var 4) (ce_var 5)))))))) (fun _ _ _ _ _ _ us hl => match us, hl with | [_, _, _], _ => rfl)).pure
theorem ok__law_wrong (T : Txt K mg tc) : Glo P w K mg base "_law_wrong" 2 2 [] (pureF C.g__law_wrong) :=
  (glo_mk (O := []) (Oc := []) (W := []) (U := []) T.d__law_wrong sc__law_wrong (fun f cdv A outer s H E P0 hr => (cs_one (cs_ret (ce_comp rfl sc__law_wrong.nd (ci_range1 T.z_range (ca_cons (ce_callB cd_len T.z_len bo_len (ca_cons (ce_var 0) ca_nil)) ca_nil)) (blkOk_by (own := [("k", 2)]) (by kernel_rfl)) (fun P0 s H C cl fp => (cg_name 2 sc__law_wrong.nd)) (fun s H C cl fp => (cts_one fun P0 => (ct_cmp (od_ne hr.units) (ce_call (ok__law_ought T) Out2.blk (hr.mono (by decide)) (ca_cons (ce_var 0) (ca_cons (ce_var 1) (ca_cons (ce_var 2) ca_nil))) (alen_cons (alen_cons (alen_cons alen_nil)))) (ce_ix (ce_var 1) (ce_var 2))))) (fun P0 s H C cl fp => (ce_var 2)))))) (fun _ _ _ _ _ _ us hl => match us, hl with | [_, _], _ => rfl)).pure
theorem ok__law_drawn_stand (T : Txt K mg tc) : Glo P w K mg base "_law_drawn_stand" 2 2 [0] C.g__law_drawn_stand :=
  (glo_mk (O := [0]) (Oc := [0]) (W := [0]) (U := [0]) T.d__law_drawn_stand sc__law_drawn_stand (fun f cdv A outer s H E P0 hr => (cs_one (cs_ret (ce_callT cd_tuple T.z_tuple bo_tuple (ca_cons (ce_comp rfl sc__law_drawn_stand.nd (ci_range1 T.z_range (ca_cons (ce_var 1) ca_nil)) (blkOk_by (own := [("k", 2)]) (by kernel_rfl)) (fun P0 s H C cl fp => (cg_name 2 sc__law_drawn_stand.nd)) (fun s H C cl fp => cts_nil) (fun P0 s H C cl fp => (ce_callIO (ok__law_take T) [(0, 0)] Out2.blk (hr.mono (by decide)) (ca_cons (ce_own 0) (ca_cons ce_int ca_nil)) (alen_cons (alen_cons alen_nil))))) ca_nil))))) (fun _ _ _ _ _ _ us hl => match us, hl with | [_, _], _ => rfl))
theorem ok__law_places (T : Txt K mg tc) : Glo P w K mg base "_law_places" 1 1 [] (pureF C.g__law_places_2) :=
  (glo_mk (O := []) (Oc := []) (W := []) (U := []) T.d__law_places sc__law_places (fun f cdv A outer s H E P0 hr => (cs_cons (cs_asg (ce_lst (ca_cons ce_int ca_nil)) (cg_name 1 sc__law_places.nd))
    (cs_cons (cs_for (U' := []) (vs := [2, 3, 4, 5]) (passes_of rfl) rfl (ci_any (ce_var 0)) (cg_name 2 sc__law_places.nd) (cs_cons (cs_asg (ce_ix (ce_lst (ca_cons (ce_lst (ca_cons ce_int ca_nil)) (ca_cons (ce_lst (ca_cons ce_int ca_nil)) (ca_cons (ce_lst (ca_cons ce_int (ca_cons ce_int ca_nil))) ca_nil)))) (ce_index hr.units65 ce_str (ce_var 2))) (cg_name 3 sc__law_places.nd))
    (cs_build (i := 4) (y := 1) sc__law_places.nd (cs_for (U' := []) (vs := [5]) (passes_of rfl) rfl (ci_any (ce_var 1)) (cg_name 5 sc__law_places.nd) (cs_one (cs_ext (i := 4) (ce_comp rfl sc__law_places.nd (ci_any (ce_var 3)) (blkOk_by (own := [("bit", 6)]) (by kernel_rfl)) (fun P0 s H C cl fp => (cg_name 6 sc__law_places.nd)) (fun s H C cl fp => cts_nil) (fun P0 s H C cl fp => (ce_bin od_add (ce_bin od_mul ce_int (ce_var 5)) (ce_var 6))))))))))
    (cs_one (cs_ret (ce_var 1)))))) (fun _ _ _ _ _ _ us hl => match us, hl with | [_], _ => rfl)).pure
theorem ok__law_bits (T : Txt K mg tc) : Glo P w K mg base "_law_bits" 2 3 [] (pureF C.g__law_bits_3) :=
  (glo_mk (O := []) (Oc := []) (W := []) (U := []) T.d__law_bits sc__law_bits (fun f cdv A outer s H E P0 hr => (cs_cons (cs_asg (ce_ix (ce_var 0) (ce_var 2)) (cg_tup [3, 4] rfl (cgs_cons 3 sc__law_bits.nd (cgs_cons 4 sc__law_bits.nd cgs_nil))))
    (cs_one (cs_ret (ce_setSort rfl T.z_sorted T.z_set (ce_comp rfl sc__law_bits.nd (ci_any (ce_call (ok__law_places T) out2_body (hr.mono (by decide)) (ca_cons (ce_comp rfl sc__law_bits.nd (ci_any (ce_var 3)) (blkOk_by (own := [("ear", 6)]) (by kernel_rfl)) (fun P0 s H C cl fp => (cg_name 6 sc__law_bits.nd)) (fun s H C cl fp => cts_nil) (fun P0 s H C cl fp => (ce_ix (ce_var 1) (ce_var 6)))) ca_nil) (alen_cons alen_nil))) (blkOk_by (own := [("place", 5)]) (by kernel_rfl)) (fun P0 s H C cl fp => (cg_name 5 sc__law_bits.nd)) (fun s H C cl fp => cts_nil) (fun P0 s H C cl fp => (ce_ix (ce_var 4) (ce_var 5))))))))) (fun _ _ _ _ _ _ us hl => match us, hl with | [_, _, _], _ => rfl)).pure
theorem ok__law_sign (T : Txt K mg tc) : Glo P w K mg base "_law_sign" 1 3 [] (pureF C.g__law_sign) :=
  (glo_mk (O := []) (Oc := []) (W := []) (U := []) T.d__law_sign sc__law_sign (fun f cdv A outer s H E P0 hr => (cs_one (cs_ret (ce_bin od_add (ce_bin od_add (ce_slice (ce_var 0) co_none (co_some (ce_var 1))) (ce_var 2)) (ce_slice (ce_var 0) (co_some (ce_bin od_add (ce_var 1) ce_int)) co_none))))) (fun _ _ _ _ _ _ us hl => match us, hl with | [_, _, _], _ => rfl)).pure
theorem ok__law_held (T : Txt K mg tc) : Glo P w K mg base "_law_held" 1 2 [] (pureF C.g__law_held) :=
  (glo_mk (O := []) (Oc := [3]) (W := []) (U := []) T.d__law_held sc__law_held (fun f cdv A outer s H E P0 hr => (cs_cons (cs_asg (ce_callT (cd_dictF rfl) T.z_dict bo_dict (ca_cons (ce_var 1) ca_nil)) (cg_name 2 sc__law_held.nd))
    (cs_cons (cs_own (i := 3) sc__law_held.nd (ce_lst ca_nil))
    (cs_cons (cs_for (U' := []) (vs := [4, 5]) (passes_of rfl) rfl (ci_enumG T.z_enumerate (ca_cons (ce_var 0) ca_nil)) (cg_tup [4, 5] rfl (cgs_cons 4 sc__law_held.nd (cgs_cons 5 sc__law_held.nd cgs_nil))) (cs_cons (cs_if (ct_din (Nat.lt_of_le_of_lt (Nat.add_le_add_left (by decide) _) hr.units65) (ce_var 4) (ce_var 2)) (cs_one (cs_asg (ce_tup (ca_cons (ce_tup ca_nil) (ca_cons (ce_tup (ca_cons (ce_dget (Nat.lt_of_le_of_lt (Nat.add_le_add_left (by decide) _) hr.units65) (ce_var 2) (ce_var 4)) ca_nil)) ca_nil))) (cg_name 5 sc__law_held.nd))) cs_nil)
    (cs_one (cs_append (i := 3) (ce_var 5)))))
    (cs_one (cs_ret (ce_callT cd_tuple T.z_tuple bo_tuple (ca_cons (ce_own 3) ca_nil)))))))) (fun _ _ _ _ _ _ us hl => match us, hl with | [_, _], _ => rfl)).pure
theorem ok__law_text (T : Txt K mg tc) : Glo P w K mg base "_law_text" 1 1 [] (pureF C.g__law_text) :=
  (glo_mk (O := []) (Oc := []) (W := []) (U := []) T.d__law_text sc__law_text (fun f cdv A outer s H E P0 hr => (cs_one (cs_ret (ce_join ce_str (ce_comp rfl sc__law_text.nd (ci_any (ce_var 0)) (blkOk_by (own := [("bit", 1)]) (by kernel_rfl)) (fun P0 s H C cl fp => (cg_name 1 sc__law_text.nd)) (fun s H C cl fp => cts_nil) (fun P0 s H C cl fp => (ce_callT cd_str T.z_str bo_str (ca_cons (ce_var 1) ca_nil)))))))) (fun _ _ _ _ _ _ us hl => match us, hl with | [_], _ => rfl)).pure
theorem ok__law_all_holds (T : Txt K mg tc) : Glo P w K mg base "_law_all_holds" 1 1 [] (pureF C.g__law_all_holds) :=
  (glo_mk (O := []) (Oc := []) (W := []) (U := []) T.d__law_all_holds sc__law_all_holds (fun f cdv A outer s H E P0 hr => (cs_cons (cs_asg (ce_lst (ca_cons (ce_ftup ca_nil) ca_nil)) (cg_name 1 sc__law_all_holds.nd))
    (cs_cons (cs_for (U' := []) (vs := [2, 3]) (passes_of rfl) rfl (ci_enumG T.z_enumerate (ca_cons (ce_var 0) ca_nil)) (cg_tup [2, 3] rfl (cgs_cons 2 sc__law_all_holds.nd (cgs_cons 3 sc__law_all_holds.nd cgs_nil))) (cs_one (cs_asg (ce_bin od_add (ce_var 1) (ce_comp rfl sc__law_all_holds.nd (ci_any (ce_var 1)) (blkOk_by (own := [("holds", 4)]) (by kernel_rfl)) (fun P0 s H C cl fp => (cg_name 4 sc__law_all_holds.nd)) (fun s H C cl fp => cts_nil) (fun P0 s H C cl fp => (ce_bin od_addG (ce_var 4) (ce_ftup (ca_cons (ce_tup (ca_cons (ce_var 2) (ca_cons (ce_var 3) ca_nil))) ca_nil)))))) (cg_name 1 sc__law_all_holds.nd))))
    (cs_one (cs_ret (ce_sortN T.z_sorted T.z_len bo_sorted bo_len (ce_var 1) hr.units65)))))) (fun _ _ _ _ _ _ us hl => match us, hl with | [_], _ => rfl)).pure
theorem ok__law_poured (T : Txt K mg tc) : Glo P w K mg base "_law_poured" 3 2 [] (pureF C.g__law_poured_2) :=
  (glo_mk (O := []) (Oc := [6]) (W := []) (U := []) T.d__law_poured sc__law_poured (fun f cdv A outer s H E P0 hr => (cs_cons (cs_asg (ce_call (ok__law_held T) out2_body (hr.mono (by decide)) (ca_cons (ce_var 0) (ca_cons (ce_var 1) ca_nil)) (alen_cons (alen_cons alen_nil))) (cg_name 2 sc__law_poured.nd))
    (cs_cons (cs_asg (ce_bin od_mul ce_str (ce_callB cd_len T.z_len bo_len (ca_cons (ce_var 0) ca_nil))) (cg_name 3 sc__law_poured.nd))
    (cs_cons (cs_for (U' := []) (vs := [5]) (passes_of rfl) rfl (ci_any (ce_var 1)) (cg_tup [4, 5] rfl (cgs_cons 4 sc__law_poured.nd (cgs_cons 5 sc__law_poured.nd cgs_nil))) (cs_one (cs_asg (ce_call (ok__law_sign T) out2_body (hr.mono (by decide)) (ca_cons (ce_var 3) (ca_cons (ce_var 4) (ca_cons (ce_callT cd_str T.z_str bo_str (ca_cons (ce_var 5) ca_nil)) ca_nil))) (alen_cons (alen_cons (alen_cons alen_nil)))) (cg_name 3 sc__law_poured.nd))))
    (cs_cons (cs_own (i := 6) sc__law_poured.nd (ce_lst (ca_cons (ce_comp rfl sc__law_poured.nd (ci_any (ce_var 1)) (blkOk_by (own := [("k", 4), ("bit", 5)]) (by kernel_rfl)) (fun P0 s H C cl fp => (cg_tup [4, 5] rfl (cgs_cons 4 sc__law_poured.nd (cgs_cons 5 sc__law_poured.nd cgs_nil)))) (fun s H C cl fp => cts_nil) (fun P0 s H C cl fp => (ce_var 4))) ca_nil)))
    (cs_one (cs_while (vs := [7, 8]) (passes_of rfl) (ct_val ce_bl) (cs_cons (cs_asg (ce_var 3) (cg_name 7 sc__law_poured.nd))
    (cs_cons (cs_for (U' := []) (vs := [8]) (passes_of rfl) rfl (ci_range1 T.z_range (ca_cons (ce_callB cd_len T.z_len bo_len (ca_cons (ce_var 0) ca_nil)) ca_nil)) (cg_name 4 sc__law_poured.nd) (cs_cons (cs_asg (ce_call (ok__law_bits T) out2_body (hr.mono (by decide)) (ca_cons (ce_var 2) (ca_cons (ce_var 3) (ca_cons (ce_var 4) ca_nil))) (alen_cons (alen_cons (alen_cons alen_nil)))) (cg_name 8 sc__law_poured.nd))
    (cs_one (cs_if (ct_w (cw_and (ct_cmp (od_eq hr.units) (ce_ix (ce_var 3) (ce_var 4)) ce_str) (cw_and1 (ct_cmp (od_eq hr.units) (ce_callB cd_len T.z_len bo_len (ca_cons (ce_var 8) ca_nil)) ce_int)))) (cs_one (cs_asg (ce_call (ok__law_sign T) out2_body (hr.mono (by decide)) (ca_cons (ce_var 7) (ca_cons (ce_var 4) (ca_cons (ce_callT cd_str T.z_str bo_str (ca_cons (ce_ix (ce_var 8) ce_int) ca_nil)) ca_nil))) (alen_cons (alen_cons (alen_cons alen_nil)))) (cg_name 7 sc__law_poured.nd))) cs_nil))))
    (cs_cons (cs_if (ct_cmp (od_eq hr.units) (ce_var 7) (ce_var 3)) (cs_one (cs_retO (i := 6) (ca_cons (ce_var 3) (ca_cons (ce_own 6) ca_nil)))) cs_nil)
    (cs_cons (cs_append (i := 6) (ce_comp rfl sc__law_poured.nd (ci_range1 T.z_range (ca_cons (ce_callB cd_len T.z_len bo_len (ca_cons (ce_var 0) ca_nil)) ca_nil)) (blkOk_by (own := [("k", 4)]) (by kernel_rfl)) (fun P0 s H C cl fp => (cg_name 4 sc__law_poured.nd)) (fun s H C cl fp => (cts_one fun P0 => (ct_cmp (od_ne hr.units) (ce_ix (ce_var 3) (ce_var 4)) (ce_ix (ce_var 7) (ce_var 4))))) (fun P0 s H C cl fp => (ce_var 4))))
    (cs_one (cs_asg (ce_var 7) (cg_name 3 sc__law_poured.nd)))))))))))))) (fun _ _ _ _ _ _ us hl => match us, hl with | [_, _], _ => rfl)).pure
theorem ok0_fewest_poured (T : Txt K mg tc) : Glo P w K mg base "fewest_poured" 7 2 [] (pureF C.g_fewest_poured_n) :=
  (glo_mk (O := []) (Oc := []) (W := []) (U := []) T.d_fewest_poured sc_fewest_poured (fun f cdv A outer s H E P0 hr => (cs_cons (cs_expr (ce_call (ok_look_at_stand T) out2_body (hr.mono (by decide)) (ca_cons (ce_var 0) (ca_cons (ce_var 1) ca_nil)) (alen_cons (alen_cons alen_nil))))
    (cs_cons (cs_asg (ce_join ce_str (ce_comp rfl sc_fewest_poured.nd (ci_any (ce_var 1)) (blkOk_by (own := [("bit", 5)]) (by kernel_rfl)) (fun P0 s H C cl fp => (cg_name 5 sc_fewest_poured.nd)) (fun s H C cl fp => cts_nil) (fun P0 s H C cl fp => (ce_callT cd_str T.z_str bo_str (ca_cons (ce_var 5) ca_nil))))) (cg_name 3 sc_fewest_poured.nd))
    (cs_cons cs_stk1
    (cs_one (cs_ret ce_non)))))) (fun _ _ _ _ _ _ us hl => match us, hl with | [_, _], _ => rfl)).pure
theorem ok__law_refused (T : Txt K mg tc) (TB : LamX.TabB base mg tc TP) : GloT P w K mg base "_law_refused" 8 2 [2] (C.g__law_refused_2 TP) :=
  gloT_mk (O := [2]) (Oc := [2]) (W := [2]) (U := [2]) T.d__law_refused sc__law_refused rfl (by decide +kernel) (fun f cdv A outer s H E P0 hr => (cs_cons (cs_asg ce_bl (cg_name 3 sc__law_refused.nd))
    (cs_cons (cs_try (i := 4) (cl := ["NoHolds", "NoStand"]) (tm := C.w__law_refused_2_1 TP) (h := C.h__law_refused_2_1 TP) sc__law_refused.nd T.cat__law_refused_1 rfl (fun Ws pn xe tk => (cb_one (cb_expr (cx_callT (ok0_fewest_poured T) (ok_fewest_poured T TB) tk [(2, 2)] 2 (hr.mono (by decide)) (hr.mono (by decide)) (ca_cons (ce_var 0) (ca_cons (ce_var 1) ca_nil)) (alen_cons (alen_cons alen_nil)))))) (fun a oe C cn pn hC hc hz hf => (cz_one (cz_asg (cz_isi (T.zz__law_refused_1 cn hc) T.is__law_refused_1_NoStand hc hC hz.zc hf List.mem_cons_self T.z_isinstance) (cg_name 3 sc__law_refused.nd)))))
    (cs_one (cs_ret (ce_var 3)))))) (fun _ _ _ _ _ _ us hl => match us, hl with | [_, _], _ => rfl)
theorem ok_law (T : Txt K mg tc) (TB : LamX.TabB base mg tc TP) {f : Addr} {fd : FuncData} (F : Fun K "law" "law" s_law f fd) : FnOk P w K mg base (L2N.CX P w) 9 f fd ["script"] (spT K mg 1 [1] (C.g_law_k75 TP)) :=
  law_fnT (Oc := [1, 3]) (W := [1, 3]) F sc_law rfl (by decide +kernel) (fun f cdv A outer s H E P0 hr => (cs_cons (cs_for (U' := [1]) (vs := [2, 3, 4, 5, 6, 7, 8, 9]) (passes_of rfl) rfl (ci_range1 T.z_range (ca_cons (ce_callB (cd_max rfl) T.z_max bo_max (ca_cons ce_int (ca_cons (ce_callB (cd_min rfl) T.z_min bo_min (ca_cons (ce_callB cd_len T.z_len bo_len (ca_cons (ce_var 0) ca_nil)) (ca_cons ce_int ca_nil))) ca_nil))) ca_nil)) (cg_name 2 sc_law.nd) (cs_cons (cs_own (i := 3) sc_law.nd (ce_call (ok__law_box T) out2_body (hr.mono (by decide)) (ca_cons (ce_var 0) (ca_cons (ce_var 2) ca_nil)) (alen_cons (alen_cons alen_nil))))
    (cs_cons (cs_asg (ce_callIO (ok__law_net T) [(0, 3)] out2_body (hr.mono (by decide)) (ca_cons (ce_own 3) (ca_cons ce_int ca_nil)) (alen_cons (alen_cons alen_nil))) (cg_name 4 sc_law.nd))
    (cs_cons (cs_asg (ce_callIO (ok__law_drawn_stand T) [(0, 3)] out2_body (hr.mono (by decide)) (ca_cons (ce_own 3) (ca_cons (ce_callB cd_len T.z_len bo_len (ca_cons (ce_var 4) ca_nil)) ca_nil)) (alen_cons (alen_cons alen_nil))) (cg_name 5 sc_law.nd))
    (cs_cons (cs_for (U' := [1]) (vs := [6]) (passes_of rfl) rfl (ci_any (ce_call (ok__law_stands T) out2_body (hr.mono (by decide)) (ca_cons (ce_callB cd_len T.z_len bo_len (ca_cons (ce_var 4) ca_nil)) ca_nil) (alen_cons alen_nil))) (cg_name 6 sc_law.nd) (cs_one (cs_if (ct_w (cw_and (ct_cmp (od_eq hr.units) (ce_call (ok__law_wrong T) out2_body (hr.mono (by decide)) (ca_cons (ce_var 4) (ca_cons (ce_var 6) ca_nil)) (alen_cons (alen_cons alen_nil))) (ce_lst ca_nil)) (cw_and1 (ct_cmp (od_eq hr.units) (ce_callIO (ok__law_take T) [(0, 3)] out2_body (hr.mono (by decide)) (ca_cons (ce_own 3) (ca_cons ce_int ca_nil)) (alen_cons (alen_cons alen_nil))) ce_int)))) (cs_one (cs_asg (ce_var 6) (cg_name 5 sc_law.nd))) cs_nil)))
    (cs_cons (cs_asg (ce_comp rfl sc_law.nd (ci_any (ce_call (ok__law_all_holds T) out2_body (hr.mono (by decide)) (ca_cons (ce_var 5) ca_nil) (alen_cons alen_nil))) (blkOk_by (own := [("holds", 10)]) (by kernel_rfl)) (fun P0 s H C cl fp => (cg_name 10 sc_law.nd)) (fun s H C cl fp => (cts_one fun P0 => (ct_cmp (od_eq hr.units) (ce_ix (ce_call (ok__law_poured T) Out2.blk (hr.mono (by decide)) (ca_cons (ce_var 4) (ca_cons (ce_var 10) ca_nil)) (alen_cons (alen_cons alen_nil))) ce_int) (ce_call (ok__law_text T) Out2.blk (hr.mono (by decide)) (ca_cons (ce_var 5) ca_nil) (alen_cons alen_nil))))) (fun P0 s H C cl fp => (ce_var 10))) (cg_name 7 sc_law.nd))
    (cs_cons (cs_asg (ce_callB (cd_minH rfl hr.units) T.z_min bo_min (ca_cons (ce_comp rfl sc_law.nd (ci_any (ce_var 7)) (blkOk_by (own := [("holds", 10)]) (by kernel_rfl)) (fun P0 s H C cl fp => (cg_name 10 sc_law.nd)) (fun s H C cl fp => (cts_one fun P0 => (ct_cmp (od_eq hr.units) (ce_callB cd_len T.z_len bo_len (ca_cons (ce_var 10) ca_nil)) (ce_callB cd_len T.z_len bo_len (ca_cons (ce_ix (ce_var 7) ce_int) ca_nil))))) (fun P0 s H C cl fp => (ce_var 10))) ca_nil)) (cg_name 8 sc_law.nd))
    (cs_cons (cs_asg (ce_callTb (ok_fewest_poured T TB) [(2, 1)] 1 out2_body (hr.mono (by decide)) (ca_cons (ce_var 4) (ca_cons (ce_var 5) ca_nil)) (alen_cons (alen_cons alen_nil))) (cg_name 9 sc_law.nd))
    (cs_cons (cs_if (ct_w (cw_or (ct_cmp (od_ne hr.units) (ce_var 9) (ce_var 8)) (cw_or (ct_not (ct_val (ce_isi isk_tuple T.z_isinstance T.z_tuple (ce_var 9) bo_isinstance bo_tuple))) (cw_or1 (ct_cmp (od_ne hr.units) (ce_callTb (ok_fewest_poured T TB) [(2, 1)] 1 out2_body (hr.mono (by decide)) (ca_cons (ce_var 4) (ca_cons (ce_var 5) ca_nil)) (alen_cons (alen_cons alen_nil))) (ce_var 8)))))) (cs_one (cs_ret ce_bl)) cs_nil)
    (cs_one (cs_if (ct_w (cw_or (ct_not (ct_val (ce_callTb (ok__law_refused T TB) [(2, 1)] 1 out2_body (hr.mono (by decide)) (ca_cons (ce_var 4) (ca_cons (ce_bin od_add (ce_var 5) (ce_tup (ca_cons ce_int ca_nil))) ca_nil)) (alen_cons (alen_cons alen_nil))))) (cw_or (ct_not (ct_val (ce_callTb (ok__law_refused T TB) [(2, 1)] 1 out2_body (hr.mono (by decide)) (ca_cons (ce_var 4) (ca_cons (ce_callT cd_list T.z_list bo_list (ca_cons (ce_var 5) ca_nil)) ca_nil)) (alen_cons (alen_cons alen_nil))))) (cw_or1 (ct_not (ct_val (ce_callTb (ok__law_refused T TB) [(2, 1)] 1 out2_body (hr.mono (by decide)) (ca_cons (ce_var 4) (ca_cons ce_non ca_nil)) (alen_cons (alen_cons alen_nil))))))))) (cs_one (cs_ret ce_bl)) cs_nil)))))))))))
    (cs_one (cs_ret ce_bl))))
end
end K75

namespace K75
theorem good_law : Y.GoodT C.g_law_k75 "choices.<locals>.<lambda>" 63 := H.good_k75
end K75

namespace K75
open PySem PySem.Spec PyProof.Rows L2 Y
theorem all {l : PySem.W.OpenLaw} {w : World} {K : PySem.W.Frag} {h : Heap} {mg : Str → Option Value} {fa tc TP : Addr} (X : K.In h) (G : h.Ns mainGlobals mg) (hfa : mg "law" = some (.ref fa)) (hg : GoodT C.g_law_k75 "choices.<locals>.<lambda>" 63)
{f0 : Addr} {od0 an0 : Option Addr} {sl0 : Array (Option Value)} {oc0 kV0 dc0 pm0 cd0 ct0 : Value}
    (a0 : PySem.W.nsIn K mainGlobals "places_in" = some (some (.ref f0))) (l0 : K.lookup f0 = some ⟨oc0, od0, .func (PySem.W.fnOf "places_in" "places_in" (defArgs s_places_in) (defBody s_places_in) (defScope s_places_in) .none kV0 dc0 pm0 an0 cd0 ct0), sl0⟩) (c0 : PySem.W.codeIn K cd0 "places_in" = true) (k0 : PySem.W.keepIn K (.ref f0) = true)
{f1 : Addr} {od1 an1 : Option Addr} {sl1 : Array (Option Value)} {oc1 kV1 dc1 pm1 cd1 ct1 : Value}
    (a1 : PySem.W.nsIn K mainGlobals "bits_for" = some (some (.ref f1))) (l1 : K.lookup f1 = some ⟨oc1, od1, .func (PySem.W.fnOf "bits_for" "bits_for" (defArgs s_bits_for) (defBody s_bits_for) (defScope s_bits_for) .none kV1 dc1 pm1 an1 cd1 ct1), sl1⟩) (c1 : PySem.W.codeIn K cd1 "bits_for" = true) (k1 : PySem.W.keepIn K (.ref f1) = true)
{f2 : Addr} {od2 an2 : Option Addr} {sl2 : Array (Option Value)} {oc2 kV2 dc2 pm2 cd2 ct2 : Value}
    (a2 : PySem.W.nsIn K mainGlobals "bits_in" = some (some (.ref f2))) (l2 : K.lookup f2 = some ⟨oc2, od2, .func (PySem.W.fnOf "bits_in" "bits_in" (defArgs s_bits_in) (defBody s_bits_in) (defScope s_bits_in) .none kV2 dc2 pm2 an2 cd2 ct2), sl2⟩) (c2 : PySem.W.codeIn K cd2 "bits_in" = true) (k2 : PySem.W.keepIn K (.ref f2) = true)
{f3 : Addr} {od3 an3 : Option Addr} {sl3 : Array (Option Value)} {oc3 kV3 dc3 pm3 cd3 ct3 : Value}
    (a3 : PySem.W.nsIn K mainGlobals "with_sign" = some (some (.ref f3))) (l3 : K.lookup f3 = some ⟨oc3, od3, .func (PySem.W.fnOf "with_sign" "with_sign" (defArgs s_with_sign) (defBody s_with_sign) (defScope s_with_sign) .none kV3 dc3 pm3 an3 cd3 ct3), sl3⟩) (c3 : PySem.W.codeIn K cd3 "with_sign" = true) (k3 : PySem.W.keepIn K (.ref f3) = true)
{f4 : Addr} {od4 an4 : Option Addr} {sl4 : Array (Option Value)} {oc4 kV4 dc4 pm4 cd4 ct4 : Value}
    (a4 : PySem.W.nsIn K mainGlobals "told_alone" = some (some (.ref f4))) (l4 : K.lookup f4 = some ⟨oc4, od4, .func (PySem.W.fnOf "told_alone" "told_alone" (defArgs s_told_alone) (defBody s_told_alone) (defScope s_told_alone) .none kV4 dc4 pm4 an4 cd4 ct4), sl4⟩) (c4 : PySem.W.codeIn K cd4 "told_alone" = true) (k4 : PySem.W.keepIn K (.ref f4) = true)
{f5 : Addr} {od5 an5 : Option Addr} {sl5 : Array (Option Value)} {oc5 kV5 dc5 pm5 cd5 ct5 : Value}
    (a5 : PySem.W.nsIn K mainGlobals "is_whole" = some (some (.ref f5))) (l5 : K.lookup f5 = some ⟨oc5, od5, .func (PySem.W.fnOf "is_whole" "is_whole" (defArgs s_is_whole) (defBody s_is_whole) (defScope s_is_whole) .none kV5 dc5 pm5 an5 cd5 ct5), sl5⟩) (c5 : PySem.W.codeIn K cd5 "is_whole" = true) (k5 : PySem.W.keepIn K (.ref f5) = true)
{f6 : Addr} {od6 an6 : Option Addr} {sl6 : Array (Option Value)} {oc6 kV6 dc6 pm6 cd6 ct6 : Value}
    (a6 : PySem.W.nsIn K mainGlobals "is_upto" = some (some (.ref f6))) (l6 : K.lookup f6 = some ⟨oc6, od6, .func (PySem.W.fnOf "is_upto" "is_upto" (defArgs s_is_upto) (defBody s_is_upto) (defScope s_is_upto) .none kV6 dc6 pm6 an6 cd6 ct6), sl6⟩) (c6 : PySem.W.codeIn K cd6 "is_upto" = true) (k6 : PySem.W.keepIn K (.ref f6) = true)
{f7 : Addr} {od7 an7 : Option Addr} {sl7 : Array (Option Value)} {oc7 kV7 dc7 pm7 cd7 ct7 : Value}
    (a7 : PySem.W.nsIn K mainGlobals "are_bits" = some (some (.ref f7))) (l7 : K.lookup f7 = some ⟨oc7, od7, .func (PySem.W.fnOf "are_bits" "are_bits" (defArgs s_are_bits) (defBody s_are_bits) (defScope s_are_bits) .none kV7 dc7 pm7 an7 cd7 ct7), sl7⟩) (c7 : PySem.W.codeIn K cd7 "are_bits" = true) (k7 : PySem.W.keepIn K (.ref f7) = true)
{f8 : Addr} {od8 an8 : Option Addr} {sl8 : Array (Option Value)} {oc8 kV8 dc8 pm8 cd8 ct8 : Value}
    (a8 : PySem.W.nsIn K mainGlobals "is_stand" = some (some (.ref f8))) (l8 : K.lookup f8 = some ⟨oc8, od8, .func (PySem.W.fnOf "is_stand" "is_stand" (defArgs s_is_stand) (defBody s_is_stand) (defScope s_is_stand) .none kV8 dc8 pm8 an8 cd8 ct8), sl8⟩) (c8 : PySem.W.codeIn K cd8 "is_stand" = true) (k8 : PySem.W.keepIn K (.ref f8) = true)
{f9 : Addr} {od9 an9 : Option Addr} {sl9 : Array (Option Value)} {oc9 kV9 dc9 pm9 cd9 ct9 : Value}
    (a9 : PySem.W.nsIn K mainGlobals "look_at_stand" = some (some (.ref f9))) (l9 : K.lookup f9 = some ⟨oc9, od9, .func (PySem.W.fnOf "look_at_stand" "look_at_stand" (defArgs s_look_at_stand) (defBody s_look_at_stand) (defScope s_look_at_stand) .none kV9 dc9 pm9 an9 cd9 ct9), sl9⟩) (c9 : PySem.W.codeIn K cd9 "look_at_stand" = true) (k9 : PySem.W.keepIn K (.ref f9) = true)
{f10 : Addr} {od10 an10 : Option Addr} {sl10 : Array (Option Value)} {oc10 kV10 dc10 pm10 cd10 ct10 : Value}
    (a10 : PySem.W.nsIn K mainGlobals "are_holds" = some (some (.ref f10))) (l10 : K.lookup f10 = some ⟨oc10, od10, .func (PySem.W.fnOf "are_holds" "are_holds" (defArgs s_are_holds) (defBody s_are_holds) (defScope s_are_holds) .none kV10 dc10 pm10 an10 cd10 ct10), sl10⟩) (c10 : PySem.W.codeIn K cd10 "are_holds" = true) (k10 : PySem.W.keepIn K (.ref f10) = true)
{f11 : Addr} {od11 an11 : Option Addr} {sl11 : Array (Option Value)} {oc11 kV11 dc11 pm11 cd11 ct11 : Value}
    (a11 : PySem.W.nsIn K mainGlobals "look_at_holds" = some (some (.ref f11))) (l11 : K.lookup f11 = some ⟨oc11, od11, .func (PySem.W.fnOf "look_at_holds" "look_at_holds" (defArgs s_look_at_holds) (defBody s_look_at_holds) (defScope s_look_at_holds) .none kV11 dc11 pm11 an11 cd11 ct11), sl11⟩) (c11 : PySem.W.codeIn K cd11 "look_at_holds" = true) (k11 : PySem.W.keepIn K (.ref f11) = true)
{f12 : Addr} {od12 an12 : Option Addr} {sl12 : Array (Option Value)} {oc12 kV12 dc12 pm12 cd12 ct12 : Value}
    (a12 : PySem.W.nsIn K mainGlobals "held_net" = some (some (.ref f12))) (l12 : K.lookup f12 = some ⟨oc12, od12, .func (PySem.W.fnOf "held_net" "held_net" (defArgs s_held_net) (defBody s_held_net) (defScope s_held_net) .none kV12 dc12 pm12 an12 cd12 ct12), sl12⟩) (c12 : PySem.W.codeIn K cd12 "held_net" = true) (k12 : PySem.W.keepIn K (.ref f12) = true)
{f13 : Addr} {od13 an13 : Option Addr} {sl13 : Array (Option Value)} {oc13 kV13 dc13 pm13 ct13 : Value}
    (a13 : PySem.W.nsIn K mainGlobals "choices" = some (some (.ref f13))) (l13 : K.lookup f13 = some ⟨oc13, od13, .func (PySem.W.fnOf "choices" "choices" (defArgs s_choices) (defBody s_choices) (defScope s_choices) .none kV13 dc13 pm13 an13 (.ref tc) ct13), sl13⟩) (c13 : PySem.W.codeIn K (.ref tc) "choices" = true) (k13 : PySem.W.keepIn K (.ref f13) = true)
{f14 : Addr} {od14 an14 : Option Addr} {sl14 : Array (Option Value)} {oc14 kV14 dc14 pm14 cd14 ct14 : Value}
    (a14 : PySem.W.nsIn K mainGlobals "frame_of" = some (some (.ref f14))) (l14 : K.lookup f14 = some ⟨oc14, od14, .func (PySem.W.fnOf "frame_of" "frame_of" (defArgs s_frame_of) (defBody s_frame_of) (defScope s_frame_of) .none kV14 dc14 pm14 an14 cd14 ct14), sl14⟩) (c14 : PySem.W.codeIn K cd14 "frame_of" = true) (k14 : PySem.W.keepIn K (.ref f14) = true)
{f15 : Addr} {od15 an15 : Option Addr} {sl15 : Array (Option Value)} {oc15 kV15 dc15 pm15 cd15 ct15 : Value}
    (a15 : PySem.W.nsIn K mainGlobals "poured" = some (some (.ref f15))) (l15 : K.lookup f15 = some ⟨oc15, od15, .func (PySem.W.fnOf "poured" "poured" (defArgs s_poured) (defBody s_poured) (defScope s_poured) .none kV15 dc15 pm15 an15 cd15 ct15), sl15⟩) (c15 : PySem.W.codeIn K cd15 "poured" = true) (k15 : PySem.W.keepIn K (.ref f15) = true)
{f16 : Addr} {od16 an16 : Option Addr} {sl16 : Array (Option Value)} {oc16 kV16 dc16 pm16 cd16 ct16 : Value}
    (a16 : PySem.W.nsIn K mainGlobals "fewest_poured" = some (some (.ref f16))) (l16 : K.lookup f16 = some ⟨oc16, od16, .func (PySem.W.fnOf "fewest_poured" "fewest_poured" (defArgs s_fewest_poured) (defBody s_fewest_poured) (defScope s_fewest_poured) .none kV16 dc16 pm16 an16 cd16 ct16), sl16⟩) (c16 : PySem.W.codeIn K cd16 "fewest_poured" = true) (k16 : PySem.W.keepIn K (.ref f16) = true)
{f17 : Addr} {od17 an17 : Option Addr} {sl17 : Array (Option Value)} {oc17 kV17 dc17 pm17 cd17 ct17 : Value}
    (a17 : PySem.W.nsIn K mainGlobals "_law_cell" = some (some (.ref f17))) (l17 : K.lookup f17 = some ⟨oc17, od17, .func (PySem.W.fnOf "_law_cell" "_law_cell" (defArgs s__law_cell) (defBody s__law_cell) (defScope s__law_cell) .none kV17 dc17 pm17 an17 cd17 ct17), sl17⟩) (c17 : PySem.W.codeIn K cd17 "_law_cell" = true) (k17 : PySem.W.keepIn K (.ref f17) = true)
{f18 : Addr} {od18 an18 : Option Addr} {sl18 : Array (Option Value)} {oc18 kV18 dc18 pm18 cd18 ct18 : Value}
    (a18 : PySem.W.nsIn K mainGlobals "_law_mix" = some (some (.ref f18))) (l18 : K.lookup f18 = some ⟨oc18, od18, .func (PySem.W.fnOf "_law_mix" "_law_mix" (defArgs s__law_mix) (defBody s__law_mix) (defScope s__law_mix) .none kV18 dc18 pm18 an18 cd18 ct18), sl18⟩) (c18 : PySem.W.codeIn K cd18 "_law_mix" = true) (k18 : PySem.W.keepIn K (.ref f18) = true)
{f19 : Addr} {od19 an19 : Option Addr} {sl19 : Array (Option Value)} {oc19 kV19 dc19 pm19 cd19 ct19 : Value}
    (a19 : PySem.W.nsIn K mainGlobals "_law_box" = some (some (.ref f19))) (l19 : K.lookup f19 = some ⟨oc19, od19, .func (PySem.W.fnOf "_law_box" "_law_box" (defArgs s__law_box) (defBody s__law_box) (defScope s__law_box) .none kV19 dc19 pm19 an19 cd19 ct19), sl19⟩) (c19 : PySem.W.codeIn K cd19 "_law_box" = true) (k19 : PySem.W.keepIn K (.ref f19) = true)
{f20 : Addr} {od20 an20 : Option Addr} {sl20 : Array (Option Value)} {oc20 kV20 dc20 pm20 cd20 ct20 : Value}
    (a20 : PySem.W.nsIn K mainGlobals "_law_take" = some (some (.ref f20))) (l20 : K.lookup f20 = some ⟨oc20, od20, .func (PySem.W.fnOf "_law_take" "_law_take" (defArgs s__law_take) (defBody s__law_take) (defScope s__law_take) .none kV20 dc20 pm20 an20 cd20 ct20), sl20⟩) (c20 : PySem.W.codeIn K cd20 "_law_take" = true) (k20 : PySem.W.keepIn K (.ref f20) = true)
{f21 : Addr} {od21 an21 : Option Addr} {sl21 : Array (Option Value)} {oc21 kV21 dc21 pm21 cd21 ct21 : Value}
    (a21 : PySem.W.nsIn K mainGlobals "_law_rule" = some (some (.ref f21))) (l21 : K.lookup f21 = some ⟨oc21, od21, .func (PySem.W.fnOf "_law_rule" "_law_rule" (defArgs s__law_rule) (defBody s__law_rule) (defScope s__law_rule) .none kV21 dc21 pm21 an21 cd21 ct21), sl21⟩) (c21 : PySem.W.codeIn K cd21 "_law_rule" = true) (k21 : PySem.W.keepIn K (.ref f21) = true)
{f22 : Addr} {od22 an22 : Option Addr} {sl22 : Array (Option Value)} {oc22 kV22 dc22 pm22 cd22 ct22 : Value}
    (a22 : PySem.W.nsIn K mainGlobals "_law_net" = some (some (.ref f22))) (l22 : K.lookup f22 = some ⟨oc22, od22, .func (PySem.W.fnOf "_law_net" "_law_net" (defArgs s__law_net) (defBody s__law_net) (defScope s__law_net) .none kV22 dc22 pm22 an22 cd22 ct22), sl22⟩) (c22 : PySem.W.codeIn K cd22 "_law_net" = true) (k22 : PySem.W.keepIn K (.ref f22) = true)
{f23 : Addr} {od23 an23 : Option Addr} {sl23 : Array (Option Value)} {oc23 kV23 dc23 pm23 cd23 ct23 : Value}
    (a23 : PySem.W.nsIn K mainGlobals "_law_stands" = some (some (.ref f23))) (l23 : K.lookup f23 = some ⟨oc23, od23, .func (PySem.W.fnOf "_law_stands" "_law_stands" (defArgs s__law_stands) (defBody s__law_stands) (defScope s__law_stands) .none kV23 dc23 pm23 an23 cd23 ct23), sl23⟩) (c23 : PySem.W.codeIn K cd23 "_law_stands" = true) (k23 : PySem.W.keepIn K (.ref f23) = true)
{f24 : Addr} {od24 an24 : Option Addr} {sl24 : Array (Option Value)} {oc24 kV24 dc24 pm24 cd24 ct24 : Value}
    (a24 : PySem.W.nsIn K mainGlobals "_law_ought" = some (some (.ref f24))) (l24 : K.lookup f24 = some ⟨oc24, od24, .func (PySem.W.fnOf "_law_ought" "_law_ought" (defArgs s__law_ought) (defBody s__law_ought) (defScope s__law_ought) .none kV24 dc24 pm24 an24 cd24 ct24), sl24⟩) (c24 : PySem.W.codeIn K cd24 "_law_ought" = true) (k24 : PySem.W.keepIn K (.ref f24) = true)
{f25 : Addr} {od25 an25 : Option Addr} {sl25 : Array (Option Value)} {oc25 kV25 dc25 pm25 cd25 ct25 : Value}
    (a25 : PySem.W.nsIn K mainGlobals "_law_wrong" = some (some (.ref f25))) (l25 : K.lookup f25 = some ⟨oc25, od25, .func (PySem.W.fnOf "_law_wrong" "_law_wrong" (defArgs s__law_wrong) (defBody s__law_wrong) (defScope s__law_wrong) .none kV25 dc25 pm25 an25 cd25 ct25), sl25⟩) (c25 : PySem.W.codeIn K cd25 "_law_wrong" = true) (k25 : PySem.W.keepIn K (.ref f25) = true)
{f26 : Addr} {od26 an26 : Option Addr} {sl26 : Array (Option Value)} {oc26 kV26 dc26 pm26 cd26 ct26 : Value}
    (a26 : PySem.W.nsIn K mainGlobals "_law_drawn_stand" = some (some (.ref f26))) (l26 : K.lookup f26 = some ⟨oc26, od26, .func (PySem.W.fnOf "_law_drawn_stand" "_law_drawn_stand" (defArgs s__law_drawn_stand) (defBody s__law_drawn_stand) (defScope s__law_drawn_stand) .none kV26 dc26 pm26 an26 cd26 ct26), sl26⟩) (c26 : PySem.W.codeIn K cd26 "_law_drawn_stand" = true) (k26 : PySem.W.keepIn K (.ref f26) = true)
{f27 : Addr} {od27 an27 : Option Addr} {sl27 : Array (Option Value)} {oc27 kV27 dc27 pm27 cd27 ct27 : Value}
    (a27 : PySem.W.nsIn K mainGlobals "_law_places" = some (some (.ref f27))) (l27 : K.lookup f27 = some ⟨oc27, od27, .func (PySem.W.fnOf "_law_places" "_law_places" (defArgs s__law_places) (defBody s__law_places) (defScope s__law_places) .none kV27 dc27 pm27 an27 cd27 ct27), sl27⟩) (c27 : PySem.W.codeIn K cd27 "_law_places" = true) (k27 : PySem.W.keepIn K (.ref f27) = true)
{f28 : Addr} {od28 an28 : Option Addr} {sl28 : Array (Option Value)} {oc28 kV28 dc28 pm28 cd28 ct28 : Value}
    (a28 : PySem.W.nsIn K mainGlobals "_law_bits" = some (some (.ref f28))) (l28 : K.lookup f28 = some ⟨oc28, od28, .func (PySem.W.fnOf "_law_bits" "_law_bits" (defArgs s__law_bits) (defBody s__law_bits) (defScope s__law_bits) .none kV28 dc28 pm28 an28 cd28 ct28), sl28⟩) (c28 : PySem.W.codeIn K cd28 "_law_bits" = true) (k28 : PySem.W.keepIn K (.ref f28) = true)
{f29 : Addr} {od29 an29 : Option Addr} {sl29 : Array (Option Value)} {oc29 kV29 dc29 pm29 cd29 ct29 : Value}
    (a29 : PySem.W.nsIn K mainGlobals "_law_sign" = some (some (.ref f29))) (l29 : K.lookup f29 = some ⟨oc29, od29, .func (PySem.W.fnOf "_law_sign" "_law_sign" (defArgs s__law_sign) (defBody s__law_sign) (defScope s__law_sign) .none kV29 dc29 pm29 an29 cd29 ct29), sl29⟩) (c29 : PySem.W.codeIn K cd29 "_law_sign" = true) (k29 : PySem.W.keepIn K (.ref f29) = true)
{f30 : Addr} {od30 an30 : Option Addr} {sl30 : Array (Option Value)} {oc30 kV30 dc30 pm30 cd30 ct30 : Value}
    (a30 : PySem.W.nsIn K mainGlobals "_law_held" = some (some (.ref f30))) (l30 : K.lookup f30 = some ⟨oc30, od30, .func (PySem.W.fnOf "_law_held" "_law_held" (defArgs s__law_held) (defBody s__law_held) (defScope s__law_held) .none kV30 dc30 pm30 an30 cd30 ct30), sl30⟩) (c30 : PySem.W.codeIn K cd30 "_law_held" = true) (k30 : PySem.W.keepIn K (.ref f30) = true)
{f31 : Addr} {od31 an31 : Option Addr} {sl31 : Array (Option Value)} {oc31 kV31 dc31 pm31 cd31 ct31 : Value}
    (a31 : PySem.W.nsIn K mainGlobals "_law_text" = some (some (.ref f31))) (l31 : K.lookup f31 = some ⟨oc31, od31, .func (PySem.W.fnOf "_law_text" "_law_text" (defArgs s__law_text) (defBody s__law_text) (defScope s__law_text) .none kV31 dc31 pm31 an31 cd31 ct31), sl31⟩) (c31 : PySem.W.codeIn K cd31 "_law_text" = true) (k31 : PySem.W.keepIn K (.ref f31) = true)
{f32 : Addr} {od32 an32 : Option Addr} {sl32 : Array (Option Value)} {oc32 kV32 dc32 pm32 cd32 ct32 : Value}
    (a32 : PySem.W.nsIn K mainGlobals "_law_all_holds" = some (some (.ref f32))) (l32 : K.lookup f32 = some ⟨oc32, od32, .func (PySem.W.fnOf "_law_all_holds" "_law_all_holds" (defArgs s__law_all_holds) (defBody s__law_all_holds) (defScope s__law_all_holds) .none kV32 dc32 pm32 an32 cd32 ct32), sl32⟩) (c32 : PySem.W.codeIn K cd32 "_law_all_holds" = true) (k32 : PySem.W.keepIn K (.ref f32) = true)
{f33 : Addr} {od33 an33 : Option Addr} {sl33 : Array (Option Value)} {oc33 kV33 dc33 pm33 cd33 ct33 : Value}
    (a33 : PySem.W.nsIn K mainGlobals "_law_poured" = some (some (.ref f33))) (l33 : K.lookup f33 = some ⟨oc33, od33, .func (PySem.W.fnOf "_law_poured" "_law_poured" (defArgs s__law_poured) (defBody s__law_poured) (defScope s__law_poured) .none kV33 dc33 pm33 an33 cd33 ct33), sl33⟩) (c33 : PySem.W.codeIn K cd33 "_law_poured" = true) (k33 : PySem.W.keepIn K (.ref f33) = true)
{f34 : Addr} {od34 an34 : Option Addr} {sl34 : Array (Option Value)} {oc34 kV34 dc34 pm34 cd34 ct34 : Value}
    (a34 : PySem.W.nsIn K mainGlobals "_law_refused" = some (some (.ref f34))) (l34 : K.lookup f34 = some ⟨oc34, od34, .func (PySem.W.fnOf "_law_refused" "_law_refused" (defArgs s__law_refused) (defBody s__law_refused) (defScope s__law_refused) .none kV34 dc34 pm34 an34 cd34 ct34), sl34⟩) (c34 : PySem.W.codeIn K cd34 "_law_refused" = true) (k34 : PySem.W.keepIn K (.ref f34) = true)
{f35 : Addr} {od35 an35 : Option Addr} {sl35 : Array (Option Value)} {oc35 kV35 dc35 pm35 cd35 ct35 : Value}
    (a35 : PySem.W.nsIn K mainGlobals "law" = some (some (.ref f35))) (l35 : K.lookup f35 = some ⟨oc35, od35, .func (PySem.W.fnOf "law" "law" (defArgs s_law) (defBody s_law) (defScope s_law) .none kV35 dc35 pm35 an35 cd35 ct35), sl35⟩) (c35 : PySem.W.codeIn K cd35 "law" = true) (k35 : PySem.W.keepIn K (.ref f35) = true)
    {C0 : Addr} (x0 : PySem.W.nsIn K mainGlobals "NoHolds" = some (some (.ref C0))) (xe0 : PySem.W.excIn K C0 Y.veB "ValueError.__new__" = true) (xk0 : PySem.W.keepIn K (.ref C0) = true) (xb0 : PySem.W.subIn K (.ref C0) (.type "BaseException") = some true) (xt0 : PySem.W.typeIn K (.ref C0) = some (.type "type"))
    {C1 : Addr} (x1 : PySem.W.nsIn K mainGlobals "NoStand" = some (some (.ref C1))) (xe1 : PySem.W.excIn K C1 Y.veB "ValueError.__new__" = true) (xk1 : PySem.W.keepIn K (.ref C1) = true) (xb1 : PySem.W.subIn K (.ref C1) (.type "BaseException") = some true) (xt1 : PySem.W.typeIn K (.ref C1) = some (.type "type"))
    {N0 : Addr} (n0 : PySem.W.nsIn K mainGlobals "NetError" = some (some (.ref N0)))
    (hg0 : PySem.W.findIn K (.ref C0) "__getattribute__" = some (some (.builtin "BaseException.__getattribute__"))) (hk0 : PySem.W.findIn K (.ref C0) "__getattr__" = some none) (hs0 : PySem.W.subIn K (.ref C0) (.type "BaseException") = some true) (hd0 : PySem.W.hasDictIn K C0 = true) (ha0 : PySem.W.findIn K (.ref C0) "__class__" = some (some (.builtin "object.__class__"))) (hn0 : PySem.W.specialIn K (.builtin "object.__class__") "__get__" = some (some (.builtin "getset_descriptor.__get__"))) (ht0 : PySem.W.takesIn K (.builtin "object.__class__") = some true) (hm0 : PySem.W.mroIn K C0 (.type "object") = some true)
    (hg1 : PySem.W.findIn K (.ref C1) "__getattribute__" = some (some (.builtin "BaseException.__getattribute__"))) (hk1 : PySem.W.findIn K (.ref C1) "__getattr__" = some none) (hs1 : PySem.W.subIn K (.ref C1) (.type "BaseException") = some true) (hd1 : PySem.W.hasDictIn K C1 = true) (ha1 : PySem.W.findIn K (.ref C1) "__class__" = some (some (.builtin "object.__class__"))) (hn1 : PySem.W.specialIn K (.builtin "object.__class__") "__get__" = some (some (.builtin "getset_descriptor.__get__"))) (ht1 : PySem.W.takesIn K (.builtin "object.__class__") = some true) (hm1 : PySem.W.mroIn K C1 (.type "object") = some true)
    (td0 : PySem.W.hasDictIn K N0 = true) (tt0 : PySem.W.typeIn K (.ref N0) = some (.type "type")) (tb0 : PySem.W.subIn K (.ref N0) (.type "BaseException") = some true)
    (td1 : PySem.W.hasDictIn K C1 = true) (tt1 : PySem.W.typeIn K (.ref C1) = some (.type "type")) (tb1 : PySem.W.subIn K (.ref C1) (.type "BaseException") = some true)
    (self0 : PySem.W.subIn K (.ref C0) (.ref C0) = some true)
    (self1 : PySem.W.subIn K (.ref C1) (.ref C1) = some true)
    (kx0 : PySem.W.subIn K (.ref C0) (.ref N0) = some true)
    (kx1 : PySem.W.subIn K (.ref C1) (.ref N0) = some true)
    (ki0 : PySem.W.subIn K (.ref C0) (.ref C1) = some false)
    (ki1 : PySem.W.subIn K (.ref C1) (.ref C1) = some true)
    (z0 : PySem.W.nsIn K mainGlobals "all" = some none)
    (z1 : PySem.W.nsIn K mainGlobals "bool" = some none)
    (z2 : PySem.W.nsIn K mainGlobals "dict" = some none)
    (z3 : PySem.W.nsIn K mainGlobals "divmod" = some none)
    (z4 : PySem.W.nsIn K mainGlobals "enumerate" = some none)
    (z5 : PySem.W.nsIn K mainGlobals "int" = some none)
    (z6 : PySem.W.nsIn K mainGlobals "isinstance" = some none)
    (z7 : PySem.W.nsIn K mainGlobals "len" = some none)
    (z8 : PySem.W.nsIn K mainGlobals "list" = some none)
    (z9 : PySem.W.nsIn K mainGlobals "max" = some none)
    (z10 : PySem.W.nsIn K mainGlobals "min" = some none)
    (z11 : PySem.W.nsIn K mainGlobals "range" = some none)
    (z12 : PySem.W.nsIn K mainGlobals "set" = some none)
    (z13 : PySem.W.nsIn K mainGlobals "sorted" = some none)
    (z14 : PySem.W.nsIn K mainGlobals "str" = some none)
    (z15 : PySem.W.nsIn K mainGlobals "sum" = some none)
    (z16 : PySem.W.nsIn K mainGlobals "tuple" = some none)
    {ocT : Value} {odT : Option Addr} {vsT : Array Value} {slT : Array (Option Value)} (q9 : K.lookup tc = some ⟨ocT, odT, .fields vsT, slT⟩) (v9 : vsT[11]? = some (.ref TP)) (hC9 : PySem.W.codeHdIn K tc TP = true) (hTP : h.get? TP = some { cls := .none, data := .fields #[] }) (nT : K.lookup TP = none)
    : LamX.LawAtS l w K (L2N.CX l.prog w) 9 63 "script" mg fa h := by
  have hC := PySem.W.codeHd_of_K X hC9
  have T : Txt K mg tc := ⟨def_mk X G a0 l0 c0 k0, def_mk X G a1 l1 c1 k1, def_mk X G a2 l2 c2 k2, def_mk X G a3 l3 c3 k3, def_mk X G a4 l4 c4 k4, def_mk X G a5 l5 c5 k5, def_mk X G a6 l6 c6 k6, def_mk X G a7 l7 c7 k7, def_mk X G a8 l8 c8 k8, def_mk X G a9 l9 c9 k9, def_mk X G a10 l10 c10 k10, def_mk X G a11 l11 c11 k11, def_mk X G a12 l12 c12 k12, defC_mk X G a13 l13 c13 k13, def_mk X G a14 l14 c14 k14, def_mk X G a15 l15 c15 k15, def_mk X G a16 l16 c16 k16, def_mk X G a17 l17 c17 k17, def_mk X G a18 l18 c18 k18, def_mk X G a19 l19 c19 k19, def_mk X G a20 l20 c20 k20, def_mk X G a21 l21 c21 k21, def_mk X G a22 l22 c22 k22, def_mk X G a23 l23 c23 k23, def_mk X G a24 l24 c24 k24, def_mk X G a25 l25 c25 k25, def_mk X G a26 l26 c26 k26, def_mk X G a27 l27 c27 k27, def_mk X G a28 l28 c28 k28, def_mk X G a29 l29 c29 k29, def_mk X G a30 l30 c30 k30, def_mk X G a31 l31 c31 k31, def_mk X G a32 l32 c32 k32, def_mk X G a33 l33 c33 k33, def_mk X G a34 l34 c34 k34, ⟨⟨_, PySem.W.mg_of X G x0, xe0, xk0, xb0, xt0⟩⟩, ⟨⟨_, PySem.W.mg_of X G x1, xe1, xk1, xb1, xt1⟩⟩, PySem.W.mg_none_of X G z0, PySem.W.mg_none_of X G z1, PySem.W.mg_none_of X G z2, PySem.W.mg_none_of X G z3, PySem.W.mg_none_of X G z4, PySem.W.mg_none_of X G z5, PySem.W.mg_none_of X G z6, PySem.W.mg_none_of X G z7, PySem.W.mg_none_of X G z8, PySem.W.mg_none_of X G z9, PySem.W.mg_none_of X G z10, PySem.W.mg_none_of X G z11, PySem.W.mg_none_of X G z12, PySem.W.mg_none_of X G z13, PySem.W.mg_none_of X G z14, PySem.W.mg_none_of X G z15, PySem.W.mg_none_of X G z16, ⟨⟨_, PySem.W.mg_of X G n0, (all_cons ⟨C0, PySem.W.mg_of X G x0, PySem.W.exm_ref tb0 td0 tt0 kx0⟩ (all_cons ⟨C1, PySem.W.mg_of X G x1, PySem.W.exm_ref tb0 td0 tt0 kx1⟩ all_nil))⟩⟩, (all_cons ⟨⟨C0, PySem.W.mg_of X G x0, ⟨hg0, hk0, hs0, hd0, ha0, hn0, ht0, hm0⟩⟩⟩ (all_cons ⟨⟨C1, PySem.W.mg_of X G x1, ⟨hg1, hk1, hs1, hd1, ha1, hn1, ht1, hm1⟩⟩⟩ all_nil)), ⟨⟨_, PySem.W.mg_of X G x1, (all_cons ⟨C0, PySem.W.mg_of X G x0, isi_of (kit_own self0 td1 tt1 ki0)⟩ (all_cons ⟨C1, PySem.W.mg_of X G x1, isi_of (kit_own self1 td1 tt1 ki1)⟩ all_nil))⟩⟩⟩
  exact law_allT X G hfa hg hC hTP nT (fun base {f} {fd} TB F => ok_law T TB F) (fun _ _ _ _ _ _ s u => .of_eq rfl) a35 l35 c35 k35
end K75
open PySem PySem.W PyProof.Rows
set_option maxHeartbeats 0 in
theorem PySem.Challenge.cw_switchnets_k75_fewest_poured_holds : PySem.Challenge.rw_switchnets_k75_fewest_poured.Holds := by
  w_on; o_law; k_head; (case hw => w_witness2)
  k_fill
  refine Y.walk_ofTab (l := PySem.Challenge.rw_switchnets_k75_fewest_poured) (n := 63) (k := 9) (x := "script") (CX := fun w => L2N.CX PySem.Challenge.rw_switchnets_k75_fewest_poured.prog w) rfl (by decide) rfl ⟨rfl, by decide, by decide⟩ (fun w h Z => PySem.W.km_in_of Z) ?F (fun _ _ _ _ _ h => Y.cx_none h)
  case F =>
    intro w mg fa h Y9 KX G hmg
    refine' K75.all KX G hmg K75.good_law ?a0 ?l0 ?c0 ?k0 ?a1 ?l1 ?c1 ?k1 ?a2 ?l2 ?c2 ?k2 ?a3 ?l3 ?c3 ?k3 ?a4 ?l4 ?c4 ?k4 ?a5 ?l5 ?c5 ?k5 ?a6 ?l6 ?c6 ?k6 ?a7 ?l7 ?c7 ?k7 ?a8 ?l8 ?c8 ?k8 ?a9 ?l9 ?c9 ?k9 ?a10 ?l10 ?c10 ?k10 ?a11 ?l11 ?c11 ?k11 ?a12 ?l12 ?c12 ?k12 ?a13 ?l13 ?c13 ?k13 ?a14 ?l14 ?c14 ?k14 ?a15 ?l15 ?c15 ?k15 ?a16 ?l16 ?c16 ?k16 ?a17 ?l17 ?c17 ?k17 ?a18 ?l18 ?c18 ?k18 ?a19 ?l19 ?c19 ?k19 ?a20 ?l20 ?c20 ?k20 ?a21 ?l21 ?c21 ?k21 ?a22 ?l22 ?c22 ?k22 ?a23 ?l23 ?c23 ?k23 ?a24 ?l24 ?c24 ?k24 ?a25 ?l25 ?c25 ?k25 ?a26 ?l26 ?c26 ?k26 ?a27 ?l27 ?c27 ?k27 ?a28 ?l28 ?c28 ?k28 ?a29 ?l29 ?c29 ?k29 ?a30 ?l30 ?c30 ?k30 ?a31 ?l31 ?c31 ?k31 ?a32 ?l32 ?c32 ?k32 ?a33 ?l33 ?c33 ?k33 ?a34 ?l34 ?c34 ?k34 ?a35 ?l35 ?c35 ?k35 ?x0 ?xe0 ?xk0 ?xb0 ?xt0 ?x1 ?xe1 ?xk1 ?xb1 ?xt1 ?n0 ?hg0 ?hk0 ?hs0 ?hd0 ?ha0 ?hn0 ?ht0 ?hm0 ?hg1 ?hk1 ?hs1 ?hd1 ?ha1 ?hn1 ?ht1 ?hm1 ?td0 ?tt0 ?tb0 ?td1 ?tt1 ?tb1 ?self0 ?self1 ?kx0 ?kx1 ?ki0 ?ki1 ?z0 ?z1 ?z2 ?z3 ?z4 ?z5 ?z6 ?z7 ?z8 ?z9 ?z10 ?z11 ?z12 ?z13 ?z14 ?z15 ?z16 ?q9 ?v9 ?hC9 ?hTP ?nT
    (case a0 => k_is); (case l0 => k_is); (case c0 => k_is); (case k0 => k_is); (case a1 => k_is); (case l1 => k_is); (case c1 => k_is); (case k1 => k_is); (case a2 => k_is); (case l2 => k_is); (case c2 => k_is); (case k2 => k_is); (case a3 => k_is); (case l3 => k_is); (case c3 => k_is); (case k3 => k_is); (case a4 => k_is); (case l4 => k_is); (case c4 => k_is); (case k4 => k_is); (case a5 => k_is); (case l5 => k_is); (case c5 => k_is); (case k5 => k_is); (case a6 => k_is); (case l6 => k_is); (case c6 => k_is); (case k6 => k_is); (case a7 => k_is); (case l7 => k_is); (case c7 => k_is); (case k7 => k_is); (case a8 => k_is); (case l8 => k_is); (case c8 => k_is); (case k8 => k_is); (case a9 => k_is); (case l9 => k_is); (case c9 => k_is); (case k9 => k_is); (case a10 => k_is); (case l10 => k_is); (case c10 => k_is); (case k10 => k_is); (case a11 => k_is); (case l11 => k_is); (case c11 => k_is); (case k11 => k_is); (case a12 => k_is); (case l12 => k_is); (case c12 => k_is); (case k12 => k_is); (case a13 => k_is); (case l13 => k_is); (case c13 => k_is); (case k13 => k_is); (case a14 => k_is); (case l14 => k_is); (case c14 => k_is); (case k14 => k_is); (case a15 => k_is); (case l15 => k_is); (case c15 => k_is); (case k15 => k_is); (case a16 => k_is); (case l16 => k_is); (case c16 => k_is); (case k16 => k_is); (case a17 => k_is); (case l17 => k_is); (case c17 => k_is); (case k17 => k_is); (case a18 => k_is); (case l18 => k_is); (case c18 => k_is); (case k18 => k_is); (case a19 => k_is); (case l19 => k_is); (case c19 => k_is); (case k19 => k_is); (case a20 => k_is); (case l20 => k_is); (case c20 => k_is); (case k20 => k_is); (case a21 => k_is); (case l21 => k_is); (case c21 => k_is); (case k21 => k_is); (case a22 => k_is); (case l22 => k_is); (case c22 => k_is); (case k22 => k_is); (case a23 => k_is); (case l23 => k_is); (case c23 => k_is); (case k23 => k_is); (case a24 => k_is); (case l24 => k_is); (case c24 => k_is); (case k24 => k_is); (case a25 => k_is); (case l25 => k_is); (case c25 => k_is); (case k25 => k_is); (case a26 => k_is); (case l26 => k_is); (case c26 => k_is); (case k26 => k_is); (case a27 => k_is); (case l27 => k_is); (case c27 => k_is); (case k27 => k_is); (case a28 => k_is); (case l28 => k_is); (case c28 => k_is); (case k28 => k_is); (case a29 => k_is); (case l29 => k_is); (case c29 => k_is); (case k29 => k_is); (case a30 => k_is); (case l30 => k_is); (case c30 => k_is); (case k30 => k_is); (case a31 => k_is); (case l31 => k_is); (case c31 => k_is); (case k31 => k_is); (case a32 => k_is); (case l32 => k_is); (case c32 => k_is); (case k32 => k_is); (case a33 => k_is); (case l33 => k_is); (case c33 => k_is); (case k33 => k_is); (case a34 => k_is); (case l34 => k_is); (case c34 => k_is); (case k34 => k_is); (case a35 => k_is); (case l35 => k_is); (case c35 => k_is); (case k35 => k_is); (case x0 => k_is); (case xe0 => k_exc); (case xk0 => k_is); (case xb0 => k_is); (case xt0 => k_is); (case x1 => k_is); (case xe1 => k_exc); (case xk1 => k_is); (case xb1 => k_is); (case xt1 => k_is); (case n0 => k_is); (case hg0 => k_is); (case hk0 => k_is); (case hs0 => k_is); (case hd0 => k_is); (case ha0 => k_is); (case hn0 => k_is); (case ht0 => k_is); (case hm0 => k_is); (case hg1 => k_is); (case hk1 => k_is); (case hs1 => k_is); (case hd1 => k_is); (case ha1 => k_is); (case hn1 => k_is); (case ht1 => k_is); (case hm1 => k_is); (case td0 => k_is); (case tt0 => k_is); (case tb0 => k_is); (case td1 => k_is); (case tt1 => k_is); (case tb1 => k_is); (case self0 => k_is); (case self1 => k_is); (case kx0 => k_is); (case kx1 => k_is); (case ki0 => k_is); (case ki1 => k_is); (case z0 => k_is); (case z1 => k_is); (case z2 => k_is); (case z3 => k_is); (case z4 => k_is); (case z5 => k_is); (case z6 => k_is); (case z7 => k_is); (case z8 => k_is); (case z9 => k_is); (case z10 => k_is); (case z11 => k_is); (case z12 => k_is); (case z13 => k_is); (case z14 => k_is); (case z15 => k_is); (case z16 => k_is); (case q9 => k_is); (case v9 => rfl); (case hC9 => kernel_rfl); (case hTP => exact PySem.W.km_tabs_of Y9 _ (by decide)); (case nT => kernel_rfl)

