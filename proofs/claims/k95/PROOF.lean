import PyProof.Rows.All
import Wide.All
import OpenK.AllK
import Wide.FinOn
import HandS.ForMost
import HandS.TupAny
import HandS.Wide
import HandS.IsInst
import HandS.Deep
import HandS.Flow
import HandS.Lambda
import HandS.TupMul
import HandS.TupLe
import HandS.TupLen
import HandS.SortOrd
import HandS.SortInts
import HandS.Walk
import HandS.Zip
import HandS.ForExc
import HandS.EndBits
import HandS.ExcCtx
import HandS.HotCalls
import HandS.Conv
import HandS.SortRule
import KE.KSortTup
import PyProof.Rows.SortShell
import PyProof.Rows.SortShellAny
import HandS.Text
import PyProof.AutoSeq1
import KE.GoesZip
import KE.GoesMore
import KE.GoesEnum
import HandS.ExcIs
import HandS.SetFor
import HandS.Strs
import HandS.Replace
import KE.KRevSl
import HandS.Dict
import HandS.Iter
import KE.KDictWalk
import KE.KEqDict
import KE.KDictSum
import KE.KDictCopyH
import HandS.More
import KE.SortData
import KE.KDictDisplayH
import HandS.SetKeys
import PyProof.WalksMore
import PyProof.SumAny
import KE.KDictZip
import KE.KDictItemsList
import HandS.ListItems
import KE.DataMinMax
import KE.KDictKeyed
import KE.KDictList
import KE.KTupSum
import HandS.Rev
import HandS.TupSets
import KE.KDictPairs
import KE.KIndexOf
import HandS.Codes
import KE.KSortRegSt
import KE.KxWritten
import HandS.EndTab
import KE.SortKeyHeap
import PyProof.Rows.Tup
import PyProof.FactsAll.set_2
import HandS.TryOnly
import PySem.Challenge.RW_switchnets_k95_whole_rests_led_over
set_option Elab.async false
set_option linter.all false
set_option maxRecDepth 100000
namespace Y
open PySem PySem.Spec PyProof.Rows L2
abbrev St := L2.St

/-- data at any depth; lists, dicts by what they hold; arg: the script; ftu: a tuple whose object is known to have no dict of its own; tab: a code object's table, its lambdas' name -/
inductive D where
  | non | bl (b : Bool) | int (i : Int) | str (x : Str) | tup (xs : List D) | lst (xs : List D)
  | arg (ns : List Int) | dik (ks : List Key) (ds : List D) | dit (ks : List (List Key)) (ds : List D) | ftu (xs : List D) | tab (p : Addr) (q : Str)
instance : Inhabited D := ⟨.non⟩
/-- a way of a run: an end, an exception of the program's own, anything else -/
inductive R (α : Type) where
  | ok (a : α) | er (c : Str) (ds : List D) | stk
@[simp] def R.bind {α β : Type} : R α → (α → R β) → R β
  | .ok a, f => f a
  | .er c ds, _ => .er c ds
  | .stk, _ => .stk
instance : Monad R where
  pure := .ok
  bind := R.bind
@[simp] theorem R.bind_ok {α β : Type} (a : α) (f : α → R β) : (R.ok a >>= f) = f a := id rfl
@[simp] theorem R.bind_stk {α β : Type} (f : α → R β) : ((R.stk : R α) >>= f) = .stk := id rfl
@[simp] theorem R.bind_er {α β : Type} (c : Str) (ds : List D) (f : α → R β) : ((R.er c ds : R α) >>= f) = .er c ds := id rfl
@[simp] theorem R.pure_eq {α : Type} (a : α) : (pure a : R α) = .ok a := id rfl
/-- the names' data by slot -/
abbrev Env := List (Option D)
/-- what an expression hands on: new data, data, or the object of an own slot -/
inductive Hd where
  | fr (d : D) | vl (d : D) | ow (i : Nat)
abbrev EM := Env → R (Hd × Env)
def look (i : Nat) (ρ : Env) : R D := match ρ[i]? with
  | some (some d) => .ok d
  | _ => .stk
def Hd.d : Hd → Env → R D
  | .fr d, _ => .ok d
  | .vl d, _ => .ok d
  | .ow i, ρ => look i ρ
def Hd.v : Hd → R D
  | .fr d => .ok d
  | .vl d => .ok d
  | .ow _ => .stk
def D.isMu : D → Bool
  | .lst _ => true
  | .dik _ _ => true
  | .dit _ _ => true
  | .arg _ => true
  | .tab _ _ => true
  | _ => false

abbrev Pr := Addr → Prop
/-- the table at p -/
def TabP (H : Hp) (p : Addr) (q : Str) (a : Addr) : Prop := a = p ∧ LamX.TabS H a q
mutual
/-- v is d, over objects none of which is forbidden (tuples never change: they may be any) -/
def Rep (K : PySem.W.Frag) (H : Hp) : D → Pr → V → Prop
  | .non, _, v => v = .non
  | .bl b, _, v => v = .bl b
  | .int i, _, v => v = .int i
  | .str x, _, v => v = .str x
  | .tup ds, P, v => ∃ a vs, v = .ref a ∧ H a = some (.tup vs) ∧ Reps K H ds P vs
  | .ftu ds, P, v => ∃ a vs o, v = .ref a ∧ H a = some (.frz o (.tup vs)) ∧ o.dict = none ∧ Reps K H ds P vs
  | .tab p q, P, v => ∃ a, v = .ref a ∧ ¬ P a ∧ TabP H p q a
  | .lst ds, P, v => ∃ a vs, v = .ref a ∧ ¬ P a ∧ H a = some (.lst vs) ∧ Reps K H ds (fun b => P b ∨ b = a) vs
  | .arg ns, P, v => ∃ a, v = .ref a ∧ ((¬ P a ∧ Rd H a (.lst (ns.map V.int))) ∨ SqL K (fun _ => none) a (ns.map V.int))
  | .dik ks ds, P, v => ∃ a vs, v = .ref a ∧ ¬ P a ∧ ks.length = vs.length ∧ Rd H a (.dK (ks.zip vs)) ∧ Reps K H ds (fun b => P b ∨ b = a) vs
  | .dit ks ds, P, v => ∃ a vs, v = .ref a ∧ ¬ P a ∧ ks.length = vs.length ∧ Rd H a (.dT (ks.zip vs)) ∧ Reps K H ds (fun b => P b ∨ b = a) vs
def Reps (K : PySem.W.Frag) (H : Hp) : List D → Pr → List V → Prop
  | [], _, vs => vs = []
  | d :: ds, P, vs => ∃ v ws, vs = v :: ws ∧ Rep K H d P v ∧ Reps K H ds P ws
end
/-- the object itself may be forbidden, what it holds not -/
def RepW (K : PySem.W.Frag) (H : Hp) : D → Pr → V → Prop
  | .lst ds, P, v => ∃ a vs, v = .ref a ∧ H a = some (.lst vs) ∧ Reps K H ds P vs
  | .arg ns, P, v => ∃ a, v = .ref a ∧ SqL K H a (ns.map V.int)
  | .dik ks ds, P, v => ∃ a vs, v = .ref a ∧ ks.length = vs.length ∧ Rd H a (.dK (ks.zip vs)) ∧ Reps K H ds P vs
  | .dit ks ds, P, v => ∃ a vs, v = .ref a ∧ ks.length = vs.length ∧ Rd H a (.dT (ks.zip vs)) ∧ Reps K H ds P vs
  | .tab p q, P, v => ∃ a, v = .ref a ∧ TabP H p q a
  | d, P, v => Rep K H d P v
/-- an own slot's object: it may be written -/
def RepO (K : PySem.W.Frag) (H : Hp) : D → Pr → V → Prop
  | .lst ds, P, v => ∃ a vs, v = .ref a ∧ H a = some (.lst vs) ∧ Reps K H ds P vs
  | .dik ks ds, P, v => ∃ a vs, v = .ref a ∧ ks.length = vs.length ∧ H a = some (.dK (ks.zip vs)) ∧ Reps K H ds P vs
  | .dit ks ds, P, v => ∃ a vs, v = .ref a ∧ ks.length = vs.length ∧ H a = some (.dT (ks.zip vs)) ∧ Reps K H ds P vs
  | .non, _, v => v = .non
  | .bl b, _, v => v = .bl b
  | .int i, _, v => v = .int i
  | .str x, _, v => v = .str x
  | .tab p q, _, v => ∃ a, v = .ref a ∧ TabP H p q a
  | _, _, _ => False

/-- an object that may change (or a list, a dict that is locked) -/
def isMut : Option HO → Prop
  | some (.lst _) => True
  | some (.dK _) => True
  | some (.dT _) => True
  | some (.ins _ _ _) => True
  | some (.set _ _) => True
  | some (.frz _ (.lst _)) => True
  | some (.frz _ (.dK _)) => True
  | some (.frz _ (.dT _)) => True
  | some (.tbl _) => True
  | _ => False
theorem isMut.nt {H : Hp} {b : Addr} (h : isMut (H b)) {xs : List V} : ¬ Rd H b (.tup xs) := by
  rintro (e | ⟨o, e⟩) <;> (rw [e] at h; exact h)
theorem isMut.some {o : Option HO} (h : isMut o) : o ≠ none := by rintro rfl; exact h
theorem Rd.keep {H H' : Hp} {a : Addr} {u : HO} (r : Rd H a u) (k : ∀ o, H a = some o → H' a = some o) : Rd H' a u := by
  rcases r with e | ⟨o, e⟩
  · exact .inl (k _ e)
  · exact .inr ⟨o, k _ e⟩
theorem Rd.some {H : Hp} {a : Addr} {u : HO} (r : Rd H a u) : H a ≠ none := by
  rcases r with e | ⟨o, e⟩ <;> (rw [e]; intro z; cases z)

theorem TabP.ext {H H' : Hp} {p a : Addr} {q : Str} (t : TabP H p q a) (e : ∀ b o, H b = some o → H' b = some o) : TabP H' p q a := ⟨t.1, t.2.ext e⟩
theorem TabS.mono {H H' : Hp} {P : Pr} {p a : Addr} {q : Str} (hm : ∀ b, P b → isMut (H b)) (k : ∀ b o, H b = some o → ¬ P b → H' b = some o) (ka : ∀ o, H a = some o → H' a = some o) (t : TabP H p q a) : TabP H' p q a := by
  obtain ⟨e, ps, h1, h2, h3⟩ := t
  refine ⟨e, ps, ka _ h1, h2, fun pos cv hc => ?_⟩
  obtain ⟨c, e1, e2⟩ := h3 pos cv hc
  exact ⟨c, e1, k _ _ e2 fun z => by have := hm c z; rw [e2] at this; exact this⟩
section
variable {K : PySem.W.Frag} {H H' : Hp}
mutual
theorem Rep.mono : ∀ (d : D) {P P' : Pr} {v : V}, (∀ b, P b → isMut (H b)) → (∀ b o, H b = some o → ¬ P b → H' b = some o) → (∀ b, P' b → P b ∨ H b = none) → Rep K H d P v → Rep K H' d P' v
  | .non, _, _, _, _, _, _, h => by unfold Rep at h ⊢; exact h
  | .bl _, _, _, _, _, _, _, h => by unfold Rep at h ⊢; exact h
  | .int _, _, _, _, _, _, _, h => by unfold Rep at h ⊢; exact h
  | .str _, _, _, _, _, _, _, h => by unfold Rep at h ⊢; exact h
  | .tup ds, P, P', v, hm, k, hp, h => by
    unfold Rep at h ⊢
    obtain ⟨a, vs, rfl, ht, hr⟩ := h
    exact ⟨a, vs, rfl, k a _ ht fun z => (hm a z).nt (.inl ht), Reps.mono ds hm k hp hr⟩
  | .ftu ds, P, P', v, hm, k, hp, h => by
    unfold Rep at h ⊢
    obtain ⟨a, vs, o, rfl, ht, hd, hr⟩ := h
    exact ⟨a, vs, o, rfl, k a _ ht fun z => (hm a z).nt (.inr ⟨o, ht⟩), hd, Reps.mono ds hm k hp hr⟩
  | .tab p q, P, P', v, hm, k, hp, h => by
    unfold Rep at h ⊢
    obtain ⟨a, rfl, ha, ht⟩ := h
    refine ⟨a, rfl, fun z => ?_, TabS.mono hm k (fun o e => k a o e ha) ht⟩
    rcases hp a z with z | z
    · exact ha z
    · obtain ⟨_, ps, h1, _⟩ := ht
      rw [h1] at z; cases z
  | .lst ds, P, P', v, hm, k, hp, h => by
    unfold Rep at h ⊢
    obtain ⟨a, vs, rfl, ha, ht, hr⟩ := h
    refine ⟨a, vs, rfl, fun z => ?_, k a _ ht ha, Reps.mono ds (P := fun b => P b ∨ b = a) (fun b z => ?_) (fun b o e n => k b o e fun z => n (.inl z)) (fun b z => ?_) hr⟩
    · rcases hp a z with z | z
      · exact ha z
      · rw [ht] at z; cases z
    · rcases z with z | rfl
      · exact hm b z
      · rw [ht]; trivial
    · rcases z with z | z
      · rcases hp b z with z | z
        · exact .inl (.inl z)
        · exact .inr z
      · exact .inl (.inr z)
  | .arg ns, P, P', v, hm, k, hp, h => by
    unfold Rep at h ⊢
    obtain ⟨a, rfl, h⟩ := h
    refine ⟨a, rfl, ?_⟩
    rcases h with ⟨ha, ht⟩ | h
    · refine .inl ⟨fun z => ?_, Rd.keep ht fun o e => k a o e ha⟩
      rcases hp a z with z | z
      · exact ha z
      · exact Rd.some ht z
    · exact .inr h
  | .dik ks ds, P, P', v, hm, k, hp, h => by
    unfold Rep at h ⊢
    obtain ⟨a, vs, rfl, ha, hl, ht, hr⟩ := h
    refine ⟨a, vs, rfl, fun z => ?_, hl, Rd.keep ht fun o e => k a o e ha, Reps.mono ds (P := fun b => P b ∨ b = a) (fun b z => ?_) (fun b o e n => k b o e fun z => n (.inl z)) (fun b z => ?_) hr⟩
    · rcases hp a z with z | z
      · exact ha z
      · exact Rd.some ht z
    · rcases z with z | rfl
      · exact hm b z
      · rcases ht with e | ⟨o, e⟩ <;> (rw [e]; trivial)
    · rcases z with z | z
      · rcases hp b z with z | z
        · exact .inl (.inl z)
        · exact .inr z
      · exact .inl (.inr z)
  | .dit ks ds, P, P', v, hm, k, hp, h => by
    unfold Rep at h ⊢
    obtain ⟨a, vs, rfl, ha, hl, ht, hr⟩ := h
    refine ⟨a, vs, rfl, fun z => ?_, hl, Rd.keep ht fun o e => k a o e ha, Reps.mono ds (P := fun b => P b ∨ b = a) (fun b z => ?_) (fun b o e n => k b o e fun z => n (.inl z)) (fun b z => ?_) hr⟩
    · rcases hp a z with z | z
      · exact ha z
      · exact Rd.some ht z
    · rcases z with z | rfl
      · exact hm b z
      · rcases ht with e | ⟨o, e⟩ <;> (rw [e]; trivial)
    · rcases z with z | z
      · rcases hp b z with z | z
        · exact .inl (.inl z)
        · exact .inr z
      · exact .inl (.inr z)
theorem Reps.mono : ∀ (ds : List D) {P P' : Pr} {vs : List V}, (∀ b, P b → isMut (H b)) → (∀ b o, H b = some o → ¬ P b → H' b = some o) → (∀ b, P' b → P b ∨ H b = none) → Reps K H ds P vs → Reps K H' ds P' vs
  | [], _, _, _, _, _, _, h => by unfold Reps at h ⊢; exact h
  | d :: ds, P, P', vs, hm, k, hp, h => by
    unfold Reps at h ⊢
    obtain ⟨v, ws, rfl, h1, h2⟩ := h
    exact ⟨v, ws, rfl, Rep.mono d hm k hp h1, Reps.mono ds hm k hp h2⟩
end
theorem Reps.length : ∀ {ds : List D} {P : Pr} {vs : List V}, Reps K H ds P vs → vs.length = ds.length
  | [], _, _, h => by unfold Reps at h; subst h; rfl
  | d :: ds, P, vs, h => by
    unfold Reps at h
    obtain ⟨v, ws, rfl, _, h2⟩ := h
    rw [List.length_cons, List.length_cons, Reps.length h2]
theorem Reps.nil {P : Pr} : Reps K H [] P [] := by unfold Reps; rfl
theorem Reps.cons {d : D} {ds : List D} {P : Pr} {v : V} {vs : List V} (h : Rep K H d P v) (h2 : Reps K H ds P vs) : Reps K H (d :: ds) P (v :: vs) := by
  unfold Reps; exact ⟨v, vs, rfl, h, h2⟩
theorem Reps.nil_iff {P : Pr} {vs : List V} (h : Reps K H [] P vs) : vs = [] := by unfold Reps at h; exact h
theorem Reps.cons_iff {d : D} {ds : List D} {P : Pr} {vs : List V} (h : Reps K H (d :: ds) P vs) : ∃ v ws, vs = v :: ws ∧ Rep K H d P v ∧ Reps K H ds P ws := by unfold Reps at h; exact h
theorem Reps.get : ∀ {ds : List D} {P : Pr} {vs : List V} {i : Nat} {d : D}, Reps K H ds P vs → ds[i]? = some d → ∃ v, vs[i]? = some v ∧ Rep K H d P v
  | [], _, _, _, _, _, e => by simp at e
  | d :: ds, P, vs, 0, d', h, e => by
    obtain ⟨v, ws, rfl, h1, _⟩ := h.cons_iff
    simp at e; subst e
    exact ⟨v, rfl, h1⟩
  | d :: ds, P, vs, i + 1, d', h, e => by
    obtain ⟨v, ws, rfl, _, h2⟩ := h.cons_iff
    simpa using Reps.get h2 (by simpa using e)
theorem Reps.append : ∀ {ds es : List D} {P : Pr} {vs ws : List V}, Reps K H ds P vs → Reps K H es P ws → Reps K H (ds ++ es) P (vs ++ ws)
  | [], _, _, _, _, h, h2 => by rw [h.nil_iff]; exact h2
  | d :: ds, es, P, vs, ws, h, h2 => by
    obtain ⟨v, us, rfl, h1, h3⟩ := h.cons_iff
    exact Reps.cons h1 (Reps.append h3 h2)
theorem Reps.of_get : ∀ {ds : List D} {P : Pr} {vs : List V}, vs.length = ds.length → (∀ (i : Nat) (d : D) (v : V), ds[i]? = some d → vs[i]? = some v → Rep K H d P v) → Reps K H ds P vs
  | [], _, [], _, _ => Reps.nil
  | [], _, _ :: _, h, _ => by simp at h
  | _ :: _, _, [], h, _ => by simp at h
  | d :: ds, P, v :: vs, h, g => Reps.cons (g 0 d v rfl rfl) (Reps.of_get (by simpa using h) fun i d' v' e1 e2 => g (i + 1) d' v' (by simpa using e1) (by simpa using e2))
/-- forbidding less -/
theorem Rep.less {d : D} {P P' : Pr} {v : V} (hm : ∀ b, P b → isMut (H b)) (h : Rep K H d P v) (hp : ∀ b, P' b → P b) : Rep K H d P' v := h.mono d hm (fun _ _ e _ => e) fun b z => .inl (hp b z)
theorem Reps.less {ds : List D} {P P' : Pr} {vs : List V} (hm : ∀ b, P b → isMut (H b)) (h : Reps K H ds P vs) (hp : ∀ b, P' b → P b) : Reps K H ds P' vs := h.mono ds hm (fun _ _ e _ => e) fun b z => .inl (hp b z)
/-- nothing that stood is changed -/
theorem Rep.same {d : D} {P : Pr} {v : V} (hm : ∀ b, P b → isMut (H b)) (h : Rep K H d P v) (k : Same H H') : Rep K H' d P v := h.mono d hm (fun b o e _ => k b o e) fun _ z => .inl z
theorem Reps.same {ds : List D} {P : Pr} {vs : List V} (hm : ∀ b, P b → isMut (H b)) (h : Reps K H ds P vs) (k : Same H H') : Reps K H' ds P vs := h.mono ds hm (fun b o e _ => k b o e) fun _ z => .inl z
theorem mutL {a : Addr} {P : Pr} {vs : List V} (hm : ∀ b, P b → isMut (H b)) (h : H a = some (.lst vs)) : ∀ b, P b ∨ b = a → isMut (H b) := fun b z => by
  rcases z with z | rfl
  · exact hm b z
  · rw [h]; trivial
theorem mutK {a : Addr} {P : Pr} {vs : List (Key × V)} (hm : ∀ b, P b → isMut (H b)) (h : Rd H a (.dK vs)) : ∀ b, P b ∨ b = a → isMut (H b) := fun b z => by
  rcases z with z | rfl
  · exact hm b z
  · rcases h with e | ⟨o, e⟩ <;> (rw [e]; trivial)
theorem mutT {a : Addr} {P : Pr} {vs : List (List Key × V)} (hm : ∀ b, P b → isMut (H b)) (h : Rd H a (.dT vs)) : ∀ b, P b ∨ b = a → isMut (H b) := fun b z => by
  rcases z with z | rfl
  · exact hm b z
  · rcases h with e | ⟨o, e⟩ <;> (rw [e]; trivial)
theorem Rep.weak {d : D} {P : Pr} {v : V} (hm : ∀ b, P b → isMut (H b)) (h : Rep K H d P v) : RepW K H d P v := by
  cases d with
  | lst ds =>
    unfold Rep at h; unfold RepW
    obtain ⟨a, vs, rfl, _, ht, hr⟩ := h
    exact ⟨a, vs, rfl, ht, hr.less (mutL hm ht) fun b z => .inl z⟩
  | arg ns =>
    unfold Rep at h; unfold RepW
    obtain ⟨a, rfl, h⟩ := h
    rcases h with ⟨_, h⟩ | h
    · exact ⟨a, rfl, .inl h⟩
    · refine ⟨a, rfl, .inr ?_⟩
      rcases h with h | h
      · rcases h with e | ⟨o, e⟩ <;> cases e
      · exact h
  | dik ks ds =>
    unfold Rep at h; unfold RepW
    obtain ⟨a, vs, rfl, _, hl, ht, hr⟩ := h
    exact ⟨a, vs, rfl, hl, ht, hr.less (mutK hm ht) fun b z => .inl z⟩
  | dit ks ds =>
    unfold Rep at h; unfold RepW
    obtain ⟨a, vs, rfl, _, hl, ht, hr⟩ := h
    exact ⟨a, vs, rfl, hl, ht, hr.less (mutT hm ht) fun b z => .inl z⟩
  | non => exact h
  | bl _ => exact h
  | int _ => exact h
  | str _ => exact h
  | tup _ => exact h
  | ftu _ => exact h
  | tab p q => unfold Rep at h; unfold RepW; obtain ⟨a, rfl, _, ht⟩ := h; exact ⟨a, rfl, ht⟩
theorem RepO.weak {d : D} {P : Pr} {v : V} (h : RepO K H d P v) : RepW K H d P v := by
  cases d with
  | lst ds => obtain ⟨a, vs, rfl, ht, hr⟩ := h; exact ⟨a, vs, rfl, ht, hr⟩
  | dik ks ds => obtain ⟨a, vs, rfl, hl, ht, hr⟩ := h; exact ⟨a, vs, rfl, hl, .inl ht, hr⟩
  | dit ks ds => obtain ⟨a, vs, rfl, hl, ht, hr⟩ := h; exact ⟨a, vs, rfl, hl, .inl ht, hr⟩
  | non => unfold RepW Rep; exact h
  | bl _ => unfold RepW Rep; exact h
  | int _ => unfold RepW Rep; exact h
  | str _ => unfold RepW Rep; exact h
  | tup _ => exact False.elim h
  | arg _ => exact False.elim h
  | ftu _ => exact False.elim h
  | tab p q => exact h
theorem Rep.of_same {d : D} {P : Pr} {v : V} (hm : ∀ b, P b → isMut (H b)) (h : Rep K H d P v) (k : ∀ b o, H b = some o → ¬ P b → H' b = some o) : Rep K H' d P v := h.mono d hm k fun _ z => .inl z
/-- a new list, tuple -/
theorem Rep.newL {ds : List D} {P : Pr} {vs : List V} {p : Addr} (hm : ∀ b, P b → isMut (H b)) (h : Reps K H ds P vs) (hp : H p = none) : Rep K (upd H p (.lst vs)) (.lst ds) P (.ref p) := by
  unfold Rep
  refine ⟨p, vs, rfl, fun z => (hm p z).some hp, upd_same, h.mono ds hm (fun b o e _ => ?_) fun b z => ?_⟩
  · rw [upd_ne (ne_of_none e hp)]; exact e
  · rcases z with z | rfl
    · exact .inl z
    · exact .inr hp
theorem Rep.newT {ds : List D} {P : Pr} {vs : List V} {p : Addr} (hm : ∀ b, P b → isMut (H b)) (h : Reps K H ds P vs) (hp : H p = none) : Rep K (upd H p (.tup vs)) (.tup ds) P (.ref p) := by
  unfold Rep
  refine ⟨p, vs, rfl, upd_same, h.mono ds hm (fun b o e _ => ?_) fun b z => .inl z⟩
  rw [upd_ne (ne_of_none e hp)]; exact e
theorem Same.new {p : Addr} {o : HO} (hp : H p = none) : Same H (upd H p o) := fun b u e => by rw [upd_ne (ne_of_none e hp)]; exact e
end

/-- the own slots' objects -/
def OA (O : List Nat) (σ : St) (b : Addr) : Prop := ∃ i, i ∈ O ∧ σ[i]? = some (some (.ref b))
def FA (P0 : Pr) (O : List Nat) (σ : St) : Pr := fun b => P0 b ∨ OA O σ b
/-- the names' data ρ lie in the slots σ over H. P0: forbidden here; O: the own slots, whose lists and dicts this def may change: nothing else leads to them -/
structure Sim (K : PySem.W.Frag) (P0 : Pr) (O W : List Nat) (ρ : Env) (σ : St) (H : Hp) : Prop where
  sub : ∀ i ∈ W, i ∈ O
  len : ρ.length ≤ σ.length
  dom : ∀ b, FA P0 O σ b → isMut (H b)
  val : ∀ i d, ρ[i]? = some (some d) → i ∉ O → ∃ v, σ[i]? = some (some v) ∧ Rep K H d (FA P0 O σ) v
  own : ∀ i d, ρ[i]? = some (some d) → i ∈ O → ∃ v, σ[i]? = some (some v) ∧ RepO K H d (FA P0 O σ) v
  sep : ∀ i j a, i ∈ O → j ∈ O → σ[i]? = some (some (.ref a)) → σ[j]? = some (some (.ref a)) → i = j
  sep0 : ∀ a, OA O σ a → ¬ P0 a
/-- what an expression may do to the heap -/
structure Keep (O : List Nat) (σ : St) (H H' : Hp) : Prop where
  keep : ∀ b o, H b = some o → ¬ OA O σ b → H' b = some o
  some : ∀ b, H b ≠ none → H' b ≠ none
theorem Keep.refl {W : List Nat} {σ : St} {H : Hp} : Keep W σ H H := ⟨fun _ _ e _ => e, fun _ e => e⟩
theorem Keep.trans {W : List Nat} {σ : St} {H H1 H2 : Hp} (a : Keep W σ H H1) (b : Keep W σ H1 H2) : Keep W σ H H2 :=
  ⟨fun c o e n => b.keep c o (a.keep c o e n) n, fun c e => b.some c (a.some c e)⟩
theorem Keep.same {W : List Nat} {σ : St} {H H' : Hp} (k : Same H H') : Keep W σ H H' := ⟨fun b o e _ => k b o e, fun b e => by
  cases q : H b with
  | none => exact absurd q e
  | some o => rw [k b o q]; intro z; cases z⟩
section
variable {K : PySem.W.Frag} {P0 : Pr} {O W : List Nat} {ρ ρ' : Env} {σ : St} {H H' : Hp}
theorem Sim.oaw (S : Sim K P0 O W ρ σ H) {b : Addr} (z : OA W σ b) : OA O σ b := let ⟨i, hi, e⟩ := z; ⟨i, S.sub i hi, e⟩
theorem Sim.rep (S : Sim K P0 O W ρ σ H) (k : Keep W σ H H') {d : D} {v : V} (h : Rep K H d (FA P0 O σ) v) : Rep K H' d (FA P0 O σ) v :=
  h.of_same S.dom fun b o e n => k.keep b o e fun z => n (.inr (S.oaw z))
/-- all that stood stands -/
theorem Sim.same (S : Sim K P0 O W ρ σ H) (k : Same H H') : Sim K P0 O W ρ σ H' where
  sub := S.sub
  len := S.len
  dom := fun b z => by
    have q := S.dom b z
    cases e : H b with
    | none => rw [e] at q; exact q.elim
    | some o => rw [k b o e, ← e]; exact q
  val := fun i d e n => let ⟨v, h1, h2⟩ := S.val i d e n; ⟨v, h1, h2.same S.dom k⟩
  own := fun i d e n => by
    obtain ⟨v, h1, h2⟩ := S.own i d e n
    refine ⟨v, h1, ?_⟩
    cases d with
    | lst ds => obtain ⟨a, vs, rfl, ht, hr⟩ := h2; exact ⟨a, vs, rfl, k _ _ ht, hr.same S.dom k⟩
    | dik ks ds => obtain ⟨a, vs, rfl, hl, ht, hr⟩ := h2; exact ⟨a, vs, rfl, hl, k _ _ ht, hr.same S.dom k⟩
    | dit ks ds => obtain ⟨a, vs, rfl, hl, ht, hr⟩ := h2; exact ⟨a, vs, rfl, hl, k _ _ ht, hr.same S.dom k⟩
    | non => exact h2
    | bl _ => exact h2
    | int _ => exact h2
    | str _ => exact h2
    | tup _ => exact h2
    | arg _ => exact h2
    | ftu _ => exact h2
    | tab p q => obtain ⟨a, rfl, ht⟩ := h2; exact ⟨a, rfl, ht.ext k⟩
  sep := S.sep
  sep0 := S.sep0
/-- what lies in a slot, for reading -/
theorem Sim.look (S : Sim K P0 O W ρ σ H) {i : Nat} {d : D} (h : look i ρ = .ok d) : ∃ v, σ[i]? = some (some v) ∧ RepW K H d (FA P0 O σ) v := by
  unfold Y.look at h
  split at h
  · rename_i d' e
    cases h
    by_cases hi : i ∈ O
    · obtain ⟨v, h1, h2⟩ := S.own i d e hi
      exact ⟨v, h1, h2.weak⟩
    · obtain ⟨v, h1, h2⟩ := S.val i d e hi
      exact ⟨v, h1, h2.weak S.dom⟩
  · cases h
end
/-- what a handle says of a value; Hs: the heap ahead -/
def HdR (K : PySem.W.Frag) (P0 : Pr) (O : List Nat) (Hs : Hp) (σ : St) (H : Hp) : Hd → V → Prop
  | .fr d, v => Rep K H d (FA P0 O σ) v ∧ (d.isMu = true → ∀ a, v = .ref a → Hs a = none)
  | .vl d, v => Rep K H d (FA P0 O σ) v
  | .ow i, v => i ∈ O ∧ σ[i]? = some (some v)
section
variable {K : PySem.W.Frag} {P0 : Pr} {O W : List Nat} {ρ ρ' : Env} {σ : St} {Hs Hs' H H' : Hp}
theorem HdR.keep (S : Sim K P0 O W ρ σ H) (k : Keep W σ H H') {h : Hd} {v : V} (r : HdR K P0 O Hs σ H h v) : HdR K P0 O Hs σ H' h v := by
  cases h with
  | fr d => exact ⟨S.rep k r.1, r.2⟩
  | vl d => exact S.rep k r
  | ow i => exact r
/-- ahead of that -/
theorem HdR.back (k : ∀ b, Hs' b ≠ none → Hs b ≠ none) {h : Hd} {v : V} (r : HdR K P0 O Hs σ H h v) : HdR K P0 O Hs' σ H h v := by
  cases h with
  | fr d => exact ⟨r.1, fun m a e => Classical.byContradiction fun z => k a z (r.2 m a e)⟩
  | vl d => exact r
  | ow i => exact r
theorem HdR.d (S : Sim K P0 O W ρ σ H) {h : Hd} {v : V} {d : D} (r : HdR K P0 O Hs σ H h v) (e : h.d ρ = .ok d) : RepW K H d (FA P0 O σ) v := by
  cases h with
  | fr d' => cases e; exact r.1.weak S.dom
  | vl d' => cases e; exact Rep.weak S.dom r
  | ow i =>
    obtain ⟨w, h1, h2⟩ := S.look e
    have q : σ[i]? = some (some v) := r.2
    rw [q] at h1; cases h1
    exact h2
theorem HdR.v {h : Hd} {v : V} {d : D} (r : HdR K P0 O Hs σ H h v) (e : h.v = .ok d) : Rep K H d (FA P0 O σ) v := by
  cases h with
  | fr d' => cases e; exact r.1
  | vl d' => cases e; exact r
  | ow i => cases e
end
end Y

set_option Elab.async false
set_option linter.all false
set_option maxRecDepth 100000
namespace Y
open PySem PySem.Spec PyProof.Rows L2

/-- no exception is told on -/
def R.nox {α : Type} : R α → R α
  | .er _ _ => .stk
  | x => x
@[simp] theorem R.nox_ok {α : Type} (a : α) : (R.ok a).nox = .ok a := id rfl
@[simp] theorem R.nox_stk {α : Type} : (R.stk : R α).nox = .stk := id rfl
abbrev EK := Str → List D → Hp → Prop
def Res (E : EK) (W : List Nat) (σ : St) (H : Hp) {α : Type} (r : R α) (k : α → Prop) : Prop := match r with
  | .ok a => k a
  | .er c ds => ∀ H', Keep W σ H H' → E c ds H'
  | .stk => False
section
variable {E : EK} {O W : List Nat} {σ : St} {H H1 : Hp} {α β : Type}
theorem Res.of_bind {r : R α} {f : α → R β} {k : β → Prop} (h : Res E W σ H (r >>= f) k) : Res E W σ H r fun a => Res E W σ H (f a) k := by cases r <;> exact h
theorem Res.mono {r : R α} {k k' : α → Prop} (h : Res E W σ H r k) (i : ∀ a, k a → k' a) : Res E W σ H r k' := by
  cases r with
  | ok a => exact i a h
  | er c ds => exact h
  | stk => exact h
theorem Res.keep {r : R α} {k : α → Prop} (h : Res E W σ H r k) (kp : Keep W σ H H1) : Res E W σ H1 r k := by
  cases r with
  | ok a => exact h
  | er c ds => exact fun H' k2 => h H' (kp.trans k2)
  | stk => exact h
theorem Res.of_nox {r : R α} {f : α → R β} {k : β → Prop} (h : Res E W σ H (r.nox >>= f) k) : ∃ a, r = .ok a ∧ Res E W σ H (f a) k := by
  cases r with
  | ok a => exact ⟨a, rfl, h⟩
  | er c ds => exact h.elim
  | stk => exact h.elim
end

def tM (K : PySem.W.Frag) (P0 : Pr) (O W : List Nat) (E : EK) (m : EM) : TE := fun σ H Q => ∃ ρ, Sim K P0 O W ρ σ H ∧
  Res E W σ H (m ρ) fun a => ∀ v H', Sim K P0 O W a.2 σ H' → Keep W σ H H' → HdR K P0 O H σ H' a.1 v → Q v H'
/-- several, from the left -/
def HdRs (K : PySem.W.Frag) (P0 : Pr) (O : List Nat) (Hs : Hp) (σ : St) (H : Hp) : List Hd → List V → Prop
  | [], vs => vs = []
  | h :: hs, vs => ∃ v ws, vs = v :: ws ∧ HdR K P0 O Hs σ H h v ∧ HdRs K P0 O Hs σ H hs ws
abbrev AM := Env → R (List Hd × Env)
def tMs (K : PySem.W.Frag) (P0 : Pr) (O W : List Nat) (E : EK) (m : AM) : TA := fun σ H Q => ∃ ρ, Sim K P0 O W ρ σ H ∧
  Res E W σ H (m ρ) fun a => ∀ vs H', Sim K P0 O W a.2 σ H' → Keep W σ H H' → HdRs K P0 O H σ H' a.1 vs → Q vs H'
abbrev BM := Env → R (Bool × Env)
def tMt (K : PySem.W.Frag) (P0 : Pr) (O W : List Nat) (E : EK) (m : BM) : TT := fun σ H Q => ∃ ρ, Sim K P0 O W ρ σ H ∧
  Res E W σ H (m ρ) fun a => ∀ H', Sim K P0 O W a.2 σ H' → Keep W σ H H' → Q a.1 H'
theorem PE.imp {X : Cx} {e : Expr} {t t' : TE} (h : PE X e t) (i : ∀ σ H Q, t' σ H Q → t σ H Q) : PE X e t' := ⟨fun pins s σ H Q I q => h.run pins s σ H Q I (i σ H Q q)⟩
theorem PT.imp {X : Cx} {e : Expr} {t t' : TT} (h : PT X e t) (i : ∀ σ H Q, t' σ H Q → t σ H Q) : PT X e t' := ⟨fun pins s σ H Q I q => h.run pins s σ H Q I (i σ H Q q)⟩
theorem PW.imp {X : Cx} {e : Expr} {t t' : TT} (h : PW X e t) (i : ∀ σ H Q, t' σ H Q → t σ H Q) : PW X e t' := ⟨fun w pins s σ H Q I q => h.run w pins s σ H Q I (i σ H Q q)⟩
theorem PA.imp {X : Cx} {e : List Expr} {t t' : TA} (h : PA X e t) (i : ∀ σ H Q, t' σ H Q → t σ H Q) : PA X e t' := ⟨fun p pins s σ H Q I q => h.run p pins s σ H Q I (i σ H Q q)⟩
theorem PS.imp {X : Cx} {e : Stmt} {t t' : TS} (h : PS X e t) (i : ∀ D σ H, t' D σ H → t D σ H) : PS X e t' := ⟨fun pins s σ H D I q => h.run pins s σ H D I (i D σ H q)⟩
theorem PSs.imp {X : Cx} {e : List Stmt} {t t' : TS} (h : PSs X e t) (i : ∀ D σ H, t' D σ H → t D σ H) : PSs X e t' := ⟨fun pins s σ H D I q => h.run pins s σ H D I (i D σ H q)⟩
theorem PE.or {X : Cx} {e : Expr} {t t' : TE} (h : PE X e t) (h' : PE X e t') : PE X e fun σ H Q => t σ H Q ∨ t' σ H Q :=
  ⟨fun pins s σ H Q I q => q.elim (h.run pins s σ H Q I) (h'.run pins s σ H Q I)⟩
section
variable {K : PySem.W.Frag} {P0 : Pr} {O W : List Nat} {ρ ρ' : Env} {σ : St} {Hs Hs' H H' : Hp}
theorem HdRs.keep (S : Sim K P0 O W ρ σ H) (k : Keep W σ H H') : ∀ {hs : List Hd} {vs : List V}, HdRs K P0 O Hs σ H hs vs → HdRs K P0 O Hs σ H' hs vs
  | [], _, r => r
  | h :: hs, _, ⟨v, ws, e, r1, r2⟩ => ⟨v, ws, e, r1.keep S k, HdRs.keep S k r2⟩
theorem HdRs.back (k : ∀ b, Hs' b ≠ none → Hs b ≠ none) : ∀ {hs : List Hd} {vs : List V}, HdRs K P0 O Hs σ H hs vs → HdRs K P0 O Hs' σ H hs vs
  | [], _, r => r
  | h :: hs, _, ⟨v, ws, e, r1, r2⟩ => ⟨v, ws, e, r1.back k, HdRs.back k r2⟩
end

def cVar (i : Nat) : EM := fun ρ => do
  let d ← (look i ρ).nox
  pure (.vl d, ρ)
def cOwn (i : Nat) : EM := fun ρ => do
  let _ ← (look i ρ).nox
  pure (.ow i, ρ)
def cC (d : D) : EM := fun ρ => .ok (.fr d, ρ)
theorem look_some {i : Nat} {ρ : Env} {d : D} (h : look i ρ = .ok d) : ρ[i]? = some (some d) := by
  unfold look at h
  split at h
  · rename_i e; cases h; exact e
  · cases h
section
variable {X : Cx} {P0 : Pr} {O W : List Nat} {E : EK} {pos : Pos}
abbrev CEx (X : Cx) (P0 : Pr) (O W : List Nat) (E : EK) (e : Expr) (m : EM) : Prop := PE X e (tM X.K P0 O W E m)
theorem ce_var (i : Nat) {x : Str} (ho : i ∉ O := by decide) (hN : X.N[i]? = some x := by rfl) (hv : Vis X.env.scope x := by first | exact Or.inl rfl | exact Or.inr (Or.inl rfl) | exact Or.inr (Or.inr rfl)) (hd : (x == ("__debug__" : Str)) = false := by decide)
    (hcd : (x == ("__classdict__" : Str)) = false := by decide) : CEx X P0 O W E (.Name x pos) (cVar i) := PE.imp (pe_var (i := i) hN hv hd hcd) fun σ H Q ⟨ρ, S, h⟩ => by
  obtain ⟨d, e, h⟩ := h.of_nox
  obtain ⟨v, h1, h2⟩ := S.val i d (look_some e) ho
  exact ⟨v, h1, h v H S .refl h2⟩
theorem ce_own (i : Nat) {x : Str} (ho : i ∈ O := by decide) (hN : X.N[i]? = some x := by rfl) (hv : Vis X.env.scope x := by first | exact Or.inl rfl | exact Or.inr (Or.inl rfl) | exact Or.inr (Or.inr rfl)) (hd : (x == ("__debug__" : Str)) = false := by decide)
    (hcd : (x == ("__classdict__" : Str)) = false := by decide) : CEx X P0 O W E (.Name x pos) (cOwn i) := PE.imp (pe_var (i := i) hN hv hd hcd) fun σ H Q ⟨ρ, S, h⟩ => by
  obtain ⟨d, e, h⟩ := h.of_nox
  obtain ⟨v, h1, h2⟩ := S.own i d (look_some e) ho
  exact ⟨v, h1, h v H S .refl ⟨ho, h1⟩⟩
theorem c_of {v : V} {d : D} (h : ∀ H P, Rep X.K H d P v) (hm : d.isMu = false) : ∀ σ H Q, tM X.K P0 O W E (cC d) σ H Q → tC v σ H Q := fun σ H Q ⟨ρ, S, q⟩ =>
  q v H S .refl ⟨h _ _, fun z => by rw [hm] at z; cases z⟩
theorem ce_int {i j} : CEx X P0 O W E (.Constant (.int i) j pos) (cC (.int i)) := PE.imp pe_int (c_of (fun _ _ => by unfold Rep; rfl) rfl)
theorem ce_bl {i j} : CEx X P0 O W E (.Constant (.bool i) j pos) (cC (.bl i)) := PE.imp pe_bl (c_of (fun _ _ => by unfold Rep; rfl) rfl)
theorem ce_non {j} : CEx X P0 O W E (.Constant .none j pos) (cC .non) := PE.imp pe_non (c_of (fun _ _ => by unfold Rep; rfl) rfl)
/-- a module's constant: a number, a text, True, None -/
theorem ce_glob {x : Str} {v : V} {d : D} {u : Value} (h : ∀ H P, Rep X.K H d P v) (hm : d.isMu = false) (r : RelV v u) (hx : X.mg x = some u) (hg : Gl X x := by rfl) (hd : (x == ("__debug__" : Str)) = false := by decide) : CEx X P0 O W E (.Name x pos) (cC d) :=
  PE.imp (pe_glob hg hx r hd) (c_of h hm)
end

def cOp (f : D → D → R D) (a b : EM) : EM := fun ρ => do
  let (h1, ρ1) ← a ρ
  let (h2, ρ2) ← b ρ1
  let x ← (h1.d ρ2).nox
  let y ← (h2.d ρ2).nox
  let z ← (f x y).nox
  pure (.fr z, ρ2)
/-- what is told on of an operation: new data -/
def Out (K : PySem.W.Frag) (P : Pr) (H : Hp) (d : D) (Q : VK) : Prop := ∀ v H', Same H H' → Rep K H' d P v → (d.isMu = true → ∀ a, v = .ref a → H a = none) → Q v H'
def rD (K : PySem.W.Frag) (f : D → D → R D) : R2 := fun x y H Q => ∃ (P : Pr) (dx dy dz : D), (∀ b, P b → isMut (H b)) ∧ RepW K H dx P x ∧ RepW K H dy P y ∧ f dx dy = .ok dz ∧ Out K P H dz Q
theorem Same.some {H H' : Hp} (k : Same H H') : ∀ b, H b ≠ none → H' b ≠ none := fun b e => by
  cases q : H b with
  | none => exact absurd q e
  | some o => rw [k b o q]; intro z; cases z
section
variable {K : PySem.W.Frag} {P0 : Pr} {O W : List Nat} {E : EK}
/-- an operation's end, told to what follows -/
theorem out_of {ρ : Env} {σ : St} {H H1 : Hp} {Q : VK} {d : D} (S : Sim K P0 O W ρ σ H1) (k : Keep W σ H H1)
    (h : ∀ v H', Sim K P0 O W ρ σ H' → Keep W σ H H' → HdR K P0 O H σ H' (.fr d) v → Q v H') : Out K (FA P0 O σ) H1 d Q := fun v H' sm r fr =>
  h v H' (S.same sm) (k.trans (Keep.same sm)) ⟨r, fun m a e => Classical.byContradiction fun z => k.some a z (fr m a e)⟩
theorem tM_op {f : D → D → R D} {a b : EM} (σ : St) (H : Hp) (Q : VK) (h : tM K P0 O W E (cOp f a b) σ H Q) : tOp (rD K f) (tM K P0 O W E a) (tM K P0 O W E b) σ H Q := by
  obtain ⟨ρ, S, h⟩ := h
  refine ⟨ρ, S, h.of_bind.mono fun ⟨h1, ρ1⟩ q x H1 S1 k1 r1 => ⟨ρ1, S1, (q.keep k1).of_bind.mono fun ⟨h2, ρ2⟩ q2 y H2 S2 k2 r2 => ?_⟩⟩
  obtain ⟨dx, e1, q3⟩ := q2.of_nox
  obtain ⟨dy, e2, q4⟩ := q3.of_nox
  obtain ⟨dz, e3, q5⟩ := q4.of_nox
  exact ⟨FA P0 O σ, dx, dy, dz, S2.dom, (r1.keep S1 k2).d S2 e1, r2.d S2 e2, e3, out_of S2 (k1.trans k2) q5⟩
/-- new data of no object -/
theorem Out.flat {P : Pr} {H : Hp} {d : D} {v : V} {Q : VK} (h : Out K P H d Q) (r : Rep K H d P v) (hm : d.isMu = false) : Q v H := h v H (fun _ _ e => e) r fun z => by rw [hm] at z; cases z
theorem Out.int {P : Pr} {H : Hp} {i : Int} {Q : VK} (h : Out K P H (.int i) Q) : Q (.int i) H := h.flat (by unfold Rep; rfl) rfl
theorem Out.bl {P : Pr} {H : Hp} {i : Bool} {Q : VK} (h : Out K P H (.bl i) Q) : Q (.bl i) H := h.flat (by unfold Rep; rfl) rfl
theorem Out.str {P : Pr} {H : Hp} {i : Str} {Q : VK} (h : Out K P H (.str i) Q) : Q (.str i) H := h.flat (by unfold Rep; rfl) rfl
theorem Out.non {P : Pr} {H : Hp} {Q : VK} (h : Out K P H .non Q) : Q .non H := h.flat (by unfold Rep; rfl) rfl
theorem Out.newL {P : Pr} {H : Hp} {ds : List D} {vs : List V} {Q : VK} (h : Out K P H (.lst ds) Q) (hm : ∀ b, P b → isMut (H b)) (r : Reps K H ds P vs) {p : Addr} (hp : H p = none) : Q (.ref p) (upd H p (.lst vs)) :=
  h _ _ (Same.new hp) (Rep.newL hm r hp) fun _ a e => by cases e; exact hp
theorem Out.newT {P : Pr} {H : Hp} {ds : List D} {vs : List V} {Q : VK} (h : Out K P H (.tup ds) Q) (hm : ∀ b, P b → isMut (H b)) (r : Reps K H ds P vs) {p : Addr} (hp : H p = none) : Q (.ref p) (upd H p (.tup vs)) :=
  h _ _ (Same.new hp) (Rep.newT hm r hp) fun z => by cases z
/-- reading a datum's form -/
theorem RepW.int {H : Hp} {i : Int} {P : Pr} {v : V} (h : RepW K H (.int i) P v) : v = .int i := by unfold RepW Rep at h; exact h
theorem RepW.bl {H : Hp} {i : Bool} {P : Pr} {v : V} (h : RepW K H (.bl i) P v) : v = .bl i := by unfold RepW Rep at h; exact h
theorem RepW.str {H : Hp} {i : Str} {P : Pr} {v : V} (h : RepW K H (.str i) P v) : v = .str i := by unfold RepW Rep at h; exact h
theorem RepW.non {H : Hp} {P : Pr} {v : V} (h : RepW K H .non P v) : v = .non := by unfold RepW Rep at h; exact h
theorem RepW.tup {H : Hp} {ds : List D} {P : Pr} {v : V} (h : RepW K H (.tup ds) P v) : ∃ a vs, v = .ref a ∧ H a = some (.tup vs) ∧ Reps K H ds P vs := by unfold RepW Rep at h; exact h
theorem RepW.ftu {H : Hp} {ds : List D} {P : Pr} {v : V} (h : RepW K H (.ftu ds) P v) : ∃ a vs o, v = .ref a ∧ H a = some (.frz o (.tup vs)) ∧ o.dict = none ∧ Reps K H ds P vs := by unfold RepW Rep at h; exact h
theorem SqT.fz {H : Hp} {a : Addr} {o : Obj} {vs : List V} (h : H a = some (.frz o (.tup vs))) : SqT K H a vs := .inl (.inr ⟨o, h⟩)
theorem RepW.lst {H : Hp} {ds : List D} {P : Pr} {v : V} (h : RepW K H (.lst ds) P v) : ∃ a vs, v = .ref a ∧ H a = some (.lst vs) ∧ Reps K H ds P vs := h
theorem RepW.arg {H : Hp} {ds : List Int} {P : Pr} {v : V} (h : RepW K H (.arg ds) P v) : ∃ a, v = .ref a ∧ SqL K H a (ds.map V.int) := h
theorem Rep.ftu_of {H : Hp} {ds : List D} {P : Pr} {a : Addr} {o : Obj} {vs : List V} (h : H a = some (.frz o (.tup vs))) (hd : o.dict = none) (r : Reps K H ds P vs) : Rep K H (.ftu ds) P (.ref a) := by unfold Rep; exact ⟨a, vs, o, rfl, h, hd, r⟩
theorem Rep.tup_of {H : Hp} {ds : List D} {P : Pr} {a : Addr} {vs : List V} (h : H a = some (.tup vs)) (r : Reps K H ds P vs) : Rep K H (.tup ds) P (.ref a) := by unfold Rep; exact ⟨a, vs, rfl, h, r⟩
/-- a list or a tuple, for reading -/
def seqOf : D → Option (List D)
  | .lst ds => some ds
  | .tup ds => some ds
  | .arg ns => some (ns.map D.int)
  | .ftu ds => some ds
  | _ => none
theorem reps_ints {H : Hp} {P : Pr} : ∀ ns : List Int, Reps K H (ns.map D.int) P (ns.map V.int)
  | [] => Reps.nil
  | n :: ns => Reps.cons (by unfold Rep; rfl) (reps_ints ns)
theorem RepW.seq {H : Hp} {d : D} {ds : List D} {P : Pr} {v : V} (h : RepW K H d P v) (e : seqOf d = some ds) : ∃ a vs, v = .ref a ∧ (SqL K H a vs ∨ SqT K H a vs) ∧ Reps K H ds P vs := by
  cases d <;> simp only [seqOf, Option.some.injEq, reduceCtorEq] at e
  · subst e; obtain ⟨a, vs, rfl, h1, h2⟩ := h.tup; exact ⟨a, vs, rfl, .inr (SqT.of h1), h2⟩
  · subst e; obtain ⟨a, vs, rfl, h1, h2⟩ := h.lst; exact ⟨a, vs, rfl, .inl (SqL.of h1), h2⟩
  · subst e; obtain ⟨a, rfl, h1⟩ := h.arg; exact ⟨a, _, rfl, .inl h1, reps_ints _⟩
  · subst e; obtain ⟨a, vs, o, rfl, h1, _, h2⟩ := h.ftu; exact ⟨a, vs, rfl, .inr (SqT.fz h1), h2⟩
end

/-- sizes that the machine bears -/
def szOk (n : Nat) : Bool := decide (n ≤ sizeLine)
def addD : D → D → R D
  | .int i, .int j => .ok (.int (i + j))
  | .str x, .str y => if szOk (x.length + y.length) = true then .ok (.str (x ++ y)) else .stk
  | .tup x, .tup y => if szOk (x.length + y.length) = true then .ok (.tup (x ++ y)) else .stk
  | .lst x, .lst y => if szOk (x.length + y.length) = true then .ok (.lst (x ++ y)) else .stk
  | _, _ => .stk
def subD : D → D → R D
  | .int i, .int j => .ok (.int (i - j))
  | _, _ => .stk
/-- either factor is small, or both are of at most 2 ^ 26 bits -/
def mulOk (i j : Int) : Bool := decide (i.natAbs < 2 ^ 64) || decide (j.natAbs < 2 ^ 64) || decide (i.natAbs.log2 < 2 ^ 26 - 8 ∧ j.natAbs.log2 < 2 ^ 26 - 8)
/-- a text as many times as told -/
def repS (k : Int) (x : Str) : Str := if k < 1 then Str.empty else if (k == 1 || x.length == 0) = true then x else ⟨(List.replicate k.toNat x.cps).foldl (· ++ ·) #[]⟩
def mulD : D → D → R D
  | .int i, .int j => if mulOk i j = true then .ok (.int (i * j)) else .stk
  | .lst x, .int k => if k < 2 ^ 20 ∧ -(2 ^ 20) < k ∧ szOk (x.length * k.toNat) = true then .ok (.lst (List.replicate k.toNat x).flatten) else .stk
  | .str x, .int k => if k < 2 ^ 20 ∧ -(2 ^ 20) < k ∧ szOk (x.length * k.toNat) = true then .ok (.str (repS k x)) else .stk
  | .tup x, .int k => if x.isEmpty = false ∧ -(2 ^ 20) < k ∧ k ≤ 1000 ∧ x.length ≤ 1000 then .ok (.tup (List.replicate k.toNat x).flatten) else .stk
  | _, _ => .stk
def smallPos (j : Int) : Bool := decide (0 < j ∧ j < 1073741824)
def fdivD : D → D → R D
  | .int i, .int j => if smallPos j = true then .ok (.int (i / j)) else .stk
  | _, _ => .stk
def modD : D → D → R D
  | .int i, .int j => if 0 < j then .ok (.int (i % j)) else .stk
  | _, _ => .stk
def shOk (i j : Int) : Bool := decide (0 ≤ j ∧ j ≤ 1000000 ∧ i.natAbs < 2 ^ 64)
def shlD : D → D → R D
  | .int i, .int j => if shOk i j = true then .ok (.int (i * 2 ^ j.toNat)) else .stk
  | _, _ => .stk
def shrD : D → D → R D
  | .int i, .int j => if 0 ≤ j then .ok (.int (i / 2 ^ j.toNat)) else .stk
  | _, _ => .stk
def andD : D → D → R D
  | .int i, .int j => .ok (.int (Builtin.bitAnd i j))
  | _, _ => .stk
def xorD : D → D → R D
  | .int i, .int j => .ok (.int (Builtin.bitXor i j))
  | _, _ => .stk
theorem mulOk_ok {i j : Int} (h : mulOk i j = true) : IntMulOk i j := by
  unfold mulOk at h
  simp only [Bool.or_eq_true, decide_eq_true_eq] at h
  rcases h with (h | h) | ⟨h1, h2⟩
  · exact IntMulOk.of_left (intBits_le_64 (by omega) (by omega))
  · exact IntMulOk.of_right (intBits_le_64 (by omega) (by omega))
  · have b : ∀ x : Int, Builtin.Int.intBits x ≤ x.natAbs.log2 + 1 := fun x => by
      unfold Builtin.Int.intBits
      split <;> omega
    have h3 := b i
    have h4 := b j
    have e : bitsLine = 134217728 := by decide
    unfold IntMulOk
    intro z
    rw [Bool.and_eq_true] at z
    have z2 := z.2
    unfold Builtin.Int.intTooBig at z2
    have z3 := of_decide_eq_true z2
    rw [e] at z3
    omega
section
variable {X : Cx}
theorem od_int {f : Value → Value → Sem Value} {g : D → D → R D} {C : Int → Int → Prop} {h : Int → Int → Int} (ho : OpR X f (rI C fun i j => .int (h i j))) (hg : ∀ x y z, g x y = .ok z → ∃ i j, x = .int i ∧ y = .int j ∧ z = .int (h i j) ∧ C i j) : OpR X f (rD X.K g) := by
  intro pins s σ H x y v u Q I rx ry ⟨P, dx, dy, dz, hm, r1, r2, e, out⟩
  obtain ⟨i, j, rfl, rfl, rfl, c⟩ := hg dx dy dz e
  obtain rfl := r1.int
  obtain rfl := r2.int
  exact ho pins s σ H _ _ v u Q I rx ry ⟨i, j, rfl, rfl, c, out.int⟩
theorem od_sub : OpR X (binaryOp .Sub) (rD X.K subD) := od_int (C := fun _ _ => True) (h := fun i j => i - j) (fun pins s σ H x y v u Q I rx ry ⟨i, j, e1, e2, _, q⟩ => op_sub pins s σ H x y v u Q I rx ry ⟨i, j, e1, e2, q⟩) fun x y z e => by
  cases x <;> cases y <;> simp only [subD, R.ok.injEq, reduceCtorEq] at e
  exact ⟨_, _, rfl, rfl, e.symm, trivial⟩
theorem od_and : OpR X (binaryOp .BitAnd) (rD X.K andD) := od_int (C := fun _ _ => True) (h := Builtin.bitAnd) (fun pins s σ H x y v u Q I rx ry ⟨i, j, e1, e2, _, q⟩ => op_and pins s σ H x y v u Q I rx ry ⟨i, j, e1, e2, q⟩) fun x y z e => by
  cases x <;> cases y <;> simp only [andD, R.ok.injEq, reduceCtorEq] at e
  exact ⟨_, _, rfl, rfl, e.symm, trivial⟩
theorem od_xor : OpR X (binaryOp .BitXor) (rD X.K xorD) := od_int (C := fun _ _ => True) (h := Builtin.bitXor) (fun pins s σ H x y v u Q I rx ry ⟨i, j, e1, e2, _, q⟩ => op_xor pins s σ H x y v u Q I rx ry ⟨i, j, e1, e2, q⟩) fun x y z e => by
  cases x <;> cases y <;> simp only [xorD, R.ok.injEq, reduceCtorEq] at e
  exact ⟨_, _, rfl, rfl, e.symm, trivial⟩
theorem od_fdiv : OpR X (binaryOp .FloorDiv) (rD X.K fdivD) := od_int op_fdiv fun x y z e => by
  cases x <;> cases y <;> simp only [fdivD, R.ok.injEq, reduceCtorEq] at e
  split at e
  · rename_i c; cases e; exact ⟨_, _, rfl, rfl, rfl, by unfold smallPos at c; have c := of_decide_eq_true c; exact c⟩
  · cases e
theorem od_mod : OpR X (binaryOp .Mod) (rD X.K modD) := od_int op_mod fun x y z e => by
  cases x <;> cases y <;> simp only [modD, R.ok.injEq, reduceCtorEq] at e
  split at e
  · rename_i c; cases e; exact ⟨_, _, rfl, rfl, rfl, c⟩
  · cases e
theorem od_shl : OpR X (binaryOp .LShift) (rD X.K shlD) := od_int op_shl fun x y z e => by
  cases x <;> cases y <;> simp only [shlD, R.ok.injEq, reduceCtorEq] at e
  split at e
  · rename_i c; cases e; exact ⟨_, _, rfl, rfl, rfl, by unfold shOk at c; have c := of_decide_eq_true c; exact c⟩
  · cases e
theorem od_shr : OpR X (binaryOp .RShift) (rD X.K shrD) := od_int op_shr fun x y z e => by
  cases x <;> cases y <;> simp only [shrD, R.ok.injEq, reduceCtorEq] at e
  split at e
  · rename_i c; cases e; exact ⟨_, _, rfl, rfl, rfl, c⟩
  · cases e
theorem od_add : OpR X (binaryOp .Add) (rD X.K addD) := by
  intro pins s σ H x y v u Q I rx ry ⟨P, dx, dy, dz, hm, r1, r2, e, out⟩
  cases dx <;> cases dy <;> simp only [addD, R.ok.injEq, reduceCtorEq] at e
  · subst e
    obtain rfl := r1.int
    obtain rfl := r2.int
    exact op_add pins s σ H _ _ v u Q I rx ry ⟨_, _, rfl, rfl, out.int⟩
  · split at e
    · rename_i c; cases e
      obtain rfl := r1.str
      obtain rfl := r2.str
      exact op_add_str pins s σ H _ _ v u Q I rx ry ⟨_, _, rfl, rfl, of_decide_eq_true c, out.str⟩
    · cases e
  · split at e
    · rename_i c; cases e
      obtain ⟨a, vs, rfl, h1, h2⟩ := r1.tup
      obtain ⟨b, ws, rfl, h3, h4⟩ := r2.tup
      refine op_catA pins s σ H _ _ v u Q I rx ry ⟨a, b, vs, ws, rfl, rfl, SqT.of h1, SqT.of h3, by rw [h2.length, h4.length]; exact of_decide_eq_true c, fun z => ?_, fun _ z => ?_, fun _ _ p hp => out.newT hm (h2.append h4) hp⟩
      · subst z
        have z := h2.length
        have z := List.length_eq_zero_iff.mp (show _ = 0 from z.symm)
        subst z
        rw [List.nil_append] at out
        exact out.flat (Rep.tup_of h3 h4) rfl
      · subst z
        have z := h4.length
        have z := List.length_eq_zero_iff.mp (show _ = 0 from z.symm)
        subst z
        rw [List.append_nil] at out
        exact out.flat (Rep.tup_of h1 h2) rfl
    · cases e
  · split at e
    · rename_i c; cases e
      obtain ⟨a, vs, rfl, h1, h2⟩ := r1.lst
      obtain ⟨b, ws, rfl, h3, h4⟩ := r2.lst
      exact op_cat pins s σ H _ _ v u Q I rx ry ⟨a, b, vs, ws, rfl, rfl, h1, h3, by rw [h2.length, h4.length]; exact of_decide_eq_true c, fun p hp => out.newL hm (h2.append h4) hp⟩
    · cases e
end
end Y

set_option Elab.async false
set_option linter.all false
set_option maxRecDepth 100000
namespace Y
open PySem PySem.Spec PyProof.Rows L2

section
open PySem.AutoSeq1 (wpAny_loadPart')
theorem tuple_mulS (l : Addr) (items : Array Value) (n : Nat) (dd : Option Addr) (sl : Array (Option Value)) (x : Int) (u : Tok) (c0 : (decide (x < -(2 ^ 63)) || decide (x ≥ 2 ^ 63)) = false) (c1 : (items.isEmpty || x == 1) = true) :
    Meets (Builtin.«tuple.__mul__» ⟨[.ref l, .int x u], []⟩) (fun _ R s => s.heap.get? l = some { cls := .type "tuple", dict := dd, data := .seq items n, slots := sl } ∧
      R (.ok (.ret (Value.ref l))) s) :=
  .of_wp fun prog w A R s h => by
    obtain ⟨hp, g, d, tk, os⟩ := s
    obtain ⟨hl, h⟩ := h
    have f1 := AutoSeq1.idx_int
    wp_walk using wpAny_loadPart' hl
    repeat (first
      | (refine wpAny_ite_false (decide_eq_false (by rw [c0]; exact Bool.false_ne_true)) ?_; wp_walk using wpAny_loadPart' hl)
      | (refine wpAny_ite_true (decide_eq_true c1) ?_; wp_walk using wpAny_loadPart' hl))
    exact ⟨_, rfl, h⟩
theorem tuple_mulE (l : Addr) (items : Array Value) (n : Nat) (dd : Option Addr) (sl : Array (Option Value)) (x : Int) (u : Tok) (c0 : (decide (x < -(2 ^ 63)) || decide (x ≥ 2 ^ 63)) = false) (c1 : (items.isEmpty || x == 1) = false) (c2 : (decide (x ≤ 0) || items.isEmpty) = true) :
    Meets (Builtin.«tuple.__mul__» ⟨[.ref l, .int x u], []⟩) (fun _ R s => s.heap.get? l = some { cls := .type "tuple", dict := dd, data := .seq items n, slots := sl } ∧
      R (.ok (.ret (Value.ref s.heap.objs.size))) { s with heap := s.heap.push { cls := Value.type "tuple", data := Data.seq #[] }, toks := s.toks }) :=
  .of_wp fun prog w A R s h => by
    obtain ⟨hp, g, d, tk, os⟩ := s
    obtain ⟨hl, h⟩ := h
    have f1 := AutoSeq1.idx_int
    wp_walk using wpAny_loadPart' hl
    repeat (first
      | (refine wpAny_ite_false (decide_eq_false (by rw [c0]; exact Bool.false_ne_true)) ?_; wp_walk using wpAny_loadPart' hl)
      | (refine wpAny_ite_false (decide_eq_false (by rw [c1]; exact Bool.false_ne_true)) ?_; wp_walk using wpAny_loadPart' hl)
      | (refine wpAny_ite_true (decide_eq_true c2) ?_; wp_walk using wpAny_loadPart' hl))
    exact ⟨_, rfl, h⟩
end
/-- a tuple times an int: once is the tuple itself -/
theorem op_repT1 {X : Cx} : OpR X (binaryOp .Mult) (fun x y H Q => ∃ l xs, x = .ref l ∧ y = .int 1 ∧ SqT X.K H l xs ∧ Q (.ref l) H) := by
  intro pins s σ H x y v u Q I rx ry h
  obtain ⟨l, xs, rfl, rfl, hT, q⟩ := h
  cases rx
  obtain ⟨t, rfl⟩ := ry
  obtain ⟨its, r, ⟨⟨cls, dd, data, sl⟩, ho, hc, n, hd⟩, hs⟩ := I.tuple hT
  simp only at hc hd
  subst hc hd
  have c0 : (decide ((1 : Int) < -(2 ^ 63)) || decide ((1 : Int) ≥ 2 ^ 63)) = false := by decide
  refine wpAny_binaryOp_repeat_ref (T := "tuple") (U := "int") (by decide) ⟨_, ho, rfl⟩ (fun s' => typeIs_int s' 1 t) noFill_tuple_mul F.fills_int_mul F.slot_int_rmul repeat_tuple F.slot_int_index.lookup
    (call_meets F.slot_int_rmul (typeIs_int s 1 t) F.entry_int_rmul (F.args_int_rmul_2 _ _) (int_rmul_tuple 1 t l its.toArray n dd sl)
      ⟨ho, rfl, ⟨_, ho, rfl⟩, call_meets F.slot_tuple_mul ⟨_, ho, rfl⟩ F.entry_tuple_mul (F.args_tuple_mul_2 _ _) (tuple_mulS l its.toArray n dd sl 1 t c0 (by simp)) ⟨ho, ?_⟩⟩)
  exact ⟨.ref l, H, I, rfl, q⟩
/-- no time or fewer: an empty tuple -/
theorem op_repT0 {X : Cx} : OpR X (binaryOp .Mult) (fun x y H Q => ∃ l k xs, x = .ref l ∧ y = .int k ∧ SqT X.K H l xs ∧ xs ≠ [] ∧ k ≤ 0 ∧ -(2 ^ 20) < k ∧ ∀ p, H p = none → Q (.ref p) (upd H p (.tup []))) := by
  intro pins s σ H x y v u Q I rx ry h
  obtain ⟨l, k, xs, rfl, rfl, hT, hne, h1, h2, q⟩ := h
  cases rx
  obtain ⟨t, rfl⟩ := ry
  obtain ⟨its, r, ⟨⟨cls, dd, data, sl⟩, ho, hc, n, hd⟩, hs⟩ := I.tuple hT
  simp only at hc hd
  subst hc hd
  have hi : its.toArray.isEmpty = false := by
    cases its with
    | nil => exact absurd (List.eq_nil_of_length_eq_zero r.length) hne
    | cons a b => rfl
  have c0 : (decide (k < -(2 ^ 63)) || decide (k ≥ 2 ^ 63)) = false := by
    rw [decide_eq_false (by omega), decide_eq_false (by omega)] <;> rfl
  have c1 : (its.toArray.isEmpty || k == 1) = false := by
    rw [hi, Bool.false_or]
    exact beq_eq_false_iff_ne.mpr (by omega)
  have c2 : (decide (k ≤ 0) || its.toArray.isEmpty) = true := by
    rw [decide_eq_true h1, Bool.true_or]
  refine wpAny_binaryOp_repeat_ref (T := "tuple") (U := "int") (by decide) ⟨_, ho, rfl⟩ (fun s' => typeIs_int s' k t) noFill_tuple_mul F.fills_int_mul F.slot_int_rmul repeat_tuple F.slot_int_index.lookup
    (call_meets F.slot_int_rmul (typeIs_int s k t) F.entry_int_rmul (F.args_int_rmul_2 _ _) (int_rmul_tuple k t l its.toArray n dd sl)
      ⟨ho, rfl, ⟨_, ho, rfl⟩, call_meets F.slot_tuple_mul ⟨_, ho, rfl⟩ F.entry_tuple_mul (F.args_tuple_mul_2 _ _) (tuple_mulE l its.toArray n dd sl k t c0 c1 c2) ⟨ho, ?_⟩⟩)
  refine ⟨.ref s.heap.objs.size, _, I.laid (t' := s.toks) (o := .tup []) (fun b ob q => Heap.get?_push_of_some _ q) (Nat.le_refl _) ?_, rfl, q _ (I.hok.fresh (Nat.le_refl _))⟩
  exact ⟨Nat.zero_le _, [], .nil, IsTup.new _ _⟩
theorem rep_all {K : PySem.W.Frag} {H : Hp} {P : Pr} {ds : List D} {vs : List V} (h : Reps K H ds P vs) : ∀ k : Nat, Reps K H (List.replicate k ds).flatten P (List.replicate k vs).flatten
  | 0 => Reps.nil
  | k + 1 => by rw [List.replicate_succ, List.replicate_succ, List.flatten_cons, List.flatten_cons]; exact h.append (rep_all h k)
noncomputable instance : DecidableEq (List D) := fun _ _ => Classical.propDecidable _
noncomputable instance : DecidableEq D := fun _ _ => Classical.propDecidable _
section
variable {X : Cx}
theorem repS_len (k : Int) (x : Str) : (⟨(List.replicate k.toNat x.cps).foldl (· ++ ·) #[]⟩ : Str).length = x.length * k.toNat := by
  show Array.size _ = _
  have h : ∀ (m : Nat) (a : Array Nat), ((List.replicate m x.cps).foldl (· ++ ·) a).size = a.size + x.cps.size * m := by
    intro m
    induction m with
    | zero => intro a; simp
    | succ m ih => intro a; rw [List.replicate_succ, List.foldl_cons, ih, Array.size_append, Nat.mul_succ]; omega
  rw [h, Array.size_empty, Nat.zero_add]
  rfl
/-- a text times an int -/
theorem op_repS : OpR X (binaryOp .Mult) (fun x y H Q => ∃ i k, x = .str i ∧ y = .int k ∧ -(2 ^ 20) < k ∧ k < 2 ^ 20 ∧ i.length * k.toNat ≤ sizeLine ∧ Q (.str (repS k i)) H) := by
  intro pins s σ H x y v u Q I rx ry h
  obtain ⟨i, k, rfl, rfl, h1, h2, hz, q⟩ := h
  obtain ⟨t, rfl⟩ := rx
  obtain ⟨t', rfl⟩ := ry
  have hs : sizeLine ≤ 2 ^ 40 := by decide
  refine PySem.P.mul_str ?_ (fun c _ => ?_) (fun _ _ => decide_eq_false (by omega)) ?_
  · rw [decide_eq_false (by omega), decide_eq_false (by omega)]; rfl
  · have e : ((i.length * k.toNat : Nat) : Int) = (i.length : Int) * k := by rw [Int.natCast_mul, Int.toNat_of_nonneg (by omega)]
    have := (Int.le_ediv_iff_mul_le (a := (i.length : Int)) (b := 2 ^ 63 - 1) (c := k) (by omega)).mpr (by rw [← e]; omega)
    omega
  · unfold repS at q
    by_cases c1 : k < 1
    · rw [if_pos c1] at q ⊢
      exact ⟨by decide, ⟨.str _, H, I.tok _, ⟨_, rfl⟩, q⟩⟩
    · rw [if_neg c1] at q ⊢
      by_cases c2 : (k == 1 || i.length == 0) = true
      · rw [if_pos c2] at q ⊢
        exact ⟨.str _, H, I, ⟨_, rfl⟩, q⟩
      · rw [if_neg c2] at q ⊢
        exact ⟨by rw [repS_len]; exact hz, ⟨.str _, H, I.tok _, ⟨_, rfl⟩, q⟩⟩
theorem od_mul : OpR X (binaryOp .Mult) (rD X.K mulD) := by
  intro pins s σ H x y v u Q I rx ry ⟨P, dx, dy, dz, hm, r1, r2, e, out⟩
  cases dx <;> cases dy <;> simp only [mulD, R.ok.injEq, reduceCtorEq] at e
  case int.int =>
    split at e
    · rename_i c; cases e
      obtain rfl := r1.int
      obtain rfl := r2.int
      obtain ⟨t, rfl⟩ := rx
      obtain ⟨t', rfl⟩ := ry
      exact mul_int ⟨.int _, H, I.tok _, ⟨_, rfl⟩, out.int⟩ (mulOk_ok c)
    · cases e
  case str.int =>
    split at e
    · rename_i c; cases e
      obtain rfl := r1.str
      obtain rfl := r2.int
      exact op_repS pins s σ H _ _ v u Q I rx ry ⟨_, _, rfl, rfl, by omega, by omega, of_decide_eq_true c.2.2, out.str⟩
    · cases e
  case tup.int =>
    split at e
    · rename_i c; cases e
      obtain ⟨a, vs, rfl, h1, h2⟩ := r1.tup
      obtain rfl := r2.int
      rename_i ds k
      have hne : vs ≠ [] := fun z => by
        have z2 := h2.length
        rw [z] at z2
        have z3 := List.length_eq_zero_iff.mp z2.symm
        rw [z3] at c
        exact absurd c.1 (by decide)
      by_cases c1 : k = 1
      · subst c1
        have e1 : (List.replicate (1 : Int).toNat ds).flatten = ds := by
          show ds ++ [] = ds
          exact List.append_nil _
        rw [e1] at out
        exact op_repT1 pins s σ H _ _ v u Q I rx ry ⟨a, vs, rfl, rfl, SqT.of h1, out.flat (Rep.tup_of h1 h2) rfl⟩
      · by_cases c2 : k ≤ 0
        · have e1 : (List.replicate k.toNat ds).flatten = [] := by
            have : k.toNat = 0 := by omega
            rw [this]; rfl
          rw [e1] at out
          exact op_repT0 pins s σ H _ _ v u Q I rx ry ⟨a, _, vs, rfl, rfl, SqT.of h1, hne, c2, c.2.1, fun p hp => out.newT hm Reps.nil hp⟩
        · exact op_repT pins s σ H _ _ v u Q I rx ry ⟨a, _, vs, rfl, rfl, SqT.of h1, hne, by omega, c.2.2.1, by rw [h2.length]; exact c.2.2.2, fun p hp => out.newT hm (rep_all h2 _) hp⟩
    · cases e
  case lst.int =>
    split at e
    · rename_i c
      have c : _ ∧ _ ∧ _ := c
      cases e
      obtain ⟨a, vs, rfl, h1, h2⟩ := r1.lst
      obtain rfl := r2.int
      exact op_rep pins s σ H _ _ v u Q I rx ry ⟨a, _, vs, rfl, rfl, h1, by omega, by omega, by rw [h2.length]; exact of_decide_eq_true c.2.2, fun p hp => out.newL hm (rep_all h2 _) hp⟩
    · cases e
end

mutual
def toPy : D → PyData
  | .non => .none
  | .bl b => .bool b
  | .int i => .int i
  | .str x => .str x
  | .tup ds => .tuple (toPys ds)
  | .lst ds => .list (toPys ds)
  | .arg ns => .list (ns.map .int)
  | .dik _ _ => .dict []
  | .dit _ _ => .dict []
  | .ftu ds => .tuple (toPys ds)
  | .tab _ _ => .dict []
def toPys : List D → List PyData
  | [] => []
  | d :: ds => toPy d :: toPys ds
end
def dOk (d : D) : Bool := SeqAt.shaped (toPy d)
def eqP (x y : D) : Bool := PyData.eqv (toPy x) (toPy y)
theorem dp_ints {K : PySem.W.Frag} {H : Hp} : ∀ ns : List Int, DpAll K H (ns.map V.int) (ns.map PyData.int)
  | [] => .nil
  | n :: ns => .cons (.int n) (dp_ints ns)
mutual
theorem Rep.dp {K : PySem.W.Frag} {H : Hp} : ∀ (d : D) {P : Pr} {v : V}, (toPy d).canLay0 = true → Rep K H d P v → Dp K H v (toPy d)
  | .non, _, _, _, h => by unfold Rep at h; subst h; exact .non
  | .bl b, _, _, _, h => by unfold Rep at h; subst h; exact .bl b
  | .int i, _, _, _, h => by unfold Rep at h; subst h; exact .int i
  | .str i, _, _, _, h => by unfold Rep at h; subst h; exact .str i
  | .tup ds, P, v, c, h => by
    unfold Rep at h
    obtain ⟨a, vs, rfl, h1, h2⟩ := h
    unfold toPy at c ⊢
    exact .tup (SqT.of h1) (Reps.dp ds (by simpa [PyData.canLay0] using c) h2)
  | .lst ds, P, v, c, h => by
    unfold Rep at h
    obtain ⟨a, vs, rfl, _, h1, h2⟩ := h
    unfold toPy at c ⊢
    exact .lst (SqL.of h1) (Reps.dp ds (by simpa [PyData.canLay0] using c) h2)
  | .arg ns, P, v, c, h => by
    unfold Rep at h
    unfold toPy
    obtain ⟨a, rfl, h⟩ := h
    rcases h with ⟨_, h⟩ | h
    · exact .lst (.inl h) (dp_ints ns)
    · refine .lst (.inr ?_) (dp_ints ns)
      rcases h with h | h
      · rcases h with e | ⟨o, e⟩ <;> cases e
      · exact h
  | .dik _ _, _, _, c, _ => by simp [toPy, PyData.canLay0] at c
  | .dit _ _, _, _, c, _ => by simp [toPy, PyData.canLay0] at c
  | .tab _ _, _, _, c, _ => by simp [toPy, PyData.canLay0] at c
  | .ftu ds, P, v, c, h => by
    unfold Rep at h
    obtain ⟨a, vs, o, rfl, h1, _, h2⟩ := h
    unfold toPy at c ⊢
    exact .tup (SqT.fz h1) (Reps.dp ds (by simpa [PyData.canLay0] using c) h2)
theorem Reps.dp {K : PySem.W.Frag} {H : Hp} : ∀ (ds : List D) {P : Pr} {vs : List V}, PyData.canLayAll0 (toPys ds) = true → Reps K H ds P vs → DpAll K H vs (toPys ds)
  | [], _, _, _, h => by rw [h.nil_iff]; exact .nil
  | d :: ds, P, vs, c, h => by
    obtain ⟨v, ws, rfl, h1, h2⟩ := h.cons_iff
    unfold toPys at c ⊢
    have c := Bool.and_eq_true_iff.mp (show (PyData.canLay0 (toPy d) && PyData.canLayAll0 (toPys ds)) = true by simpa [PyData.canLayAll0] using c)
    exact .cons (Rep.dp d c.1 h1) (Reps.dp ds c.2 h2)
end
theorem RepW.dp {K : PySem.W.Frag} {H : Hp} {d : D} {P : Pr} {v : V} (c : dOk d = true) (h : RepW K H d P v) : Dp K H v (toPy d) := by
  have c := SeqAt.canLay_of_shaped c
  cases d with
  | lst ds =>
    obtain ⟨a, vs, rfl, h1, h2⟩ := h
    unfold toPy at c ⊢
    exact .lst (SqL.of h1) (Reps.dp ds (by simpa [PyData.canLay0] using c) h2)
  | arg ns =>
    obtain ⟨a, rfl, h1⟩ := h
    unfold toPy
    exact .lst h1 (dp_ints ns)
  | dik _ _ => simp [toPy, PyData.canLay0] at c
  | dit _ _ => simp [toPy, PyData.canLay0] at c
  | tab _ _ => simp [toPy, PyData.canLay0] at c
  | non => exact Rep.dp (P := P) _ c h
  | bl _ => exact Rep.dp (P := P) _ c h
  | int _ => exact Rep.dp (P := P) _ c h
  | str _ => exact Rep.dp (P := P) _ c h
  | tup _ => exact Rep.dp (P := P) _ c h
  | ftu _ => exact Rep.dp (P := P) _ c h
def eqD (x y : D) : R D := if (dOk x && dOk y) = true then .ok (.bl (eqP x y)) else .stk
def neD (x y : D) : R D := if (dOk x && dOk y) = true then .ok (.bl (!eqP x y)) else .stk
def ltD : D → D → R D
  | .int i, .int j => .ok (.bl (decide (i < j)))
  | .str x, .str y => .ok (.bl (decide (x.cps.toList < y.cps.toList)))
  | _, _ => .stk
def leD : D → D → R D
  | .int i, .int j => .ok (.bl (decide (i ≤ j)))
  | _, _ => .stk
def gtD : D → D → R D
  | .int i, .int j => .ok (.bl (decide (j < i)))
  | _, _ => .stk
def geD : D → D → R D
  | .int i, .int j => .ok (.bl (decide (j ≤ i)))
  | _, _ => .stk
def isNon : D → Bool
  | .non => true
  | _ => false
def isNotD : D → D → R D
  | x, .non => .ok (.bl (!isNon x))
  | .bl a, .bl b => .ok (.bl (!decide (a = b)))
  | _, _ => .stk
def flatD : D → Bool
  | .non => true
  | .bl _ => true
  | .int _ => true
  | .str _ => true
  | _ => false
/-- in a text of one sign, a list of data, a tuple of flat data -/
def inB : D → D → Option Bool
  | .str a, .str b => if a.length = 1 then some (decide (a.cps.getD 0 0 ∈ b.cps.toList)) else none
  | x, .lst ds => if (dOk x && dOk (.lst ds)) = true then some (ds.any fun z => eqP z x) else none
  | x, .tup ds => if (flatD x && ds.all flatD) = true then some (ds.any fun z => eqP z x) else none
  | _, _ => none
def inD (x y : D) : R D := match inB x y with | some b => .ok (.bl b) | none => .stk
def ninD (x y : D) : R D := match inB x y with | some b => .ok (.bl (!b)) | none => .stk
section
variable {K : PySem.W.Frag} {H : Hp} {P : Pr}
theorem RepW.isNon {d : D} {v : V} (h : RepW K H d P v) : decide (v = .non) = isNon d := by
  cases d with
  | non => rw [h.non]; rfl
  | bl _ => rw [h.bl]; rfl
  | int _ => rw [h.int]; rfl
  | str _ => rw [h.str]; rfl
  | tup _ => obtain ⟨a, vs, rfl, _⟩ := h.tup; rfl
  | lst _ => obtain ⟨a, vs, rfl, _⟩ := h.lst; rfl
  | arg _ => obtain ⟨a, rfl, _⟩ := h.arg; rfl
  | ftu _ => obtain ⟨a, vs, o, rfl, _⟩ := h.ftu; rfl
  | dik _ _ => obtain ⟨a, vs, rfl, _⟩ := h; rfl
  | dit _ _ => obtain ⟨a, vs, rfl, _⟩ := h; rfl
  | tab _ _ => obtain ⟨a, rfl, _⟩ := h; rfl
theorem flat_rep {d : D} {v : V} (f : flatD d = true) (h : Rep K H d P v) : flatV v = true := by
  cases d <;> unfold Rep at h <;> first | (subst h; rfl) | (simp [flatD] at f)
theorem flat_eq {d e : D} {v w : V} (f : flatD d = true) (g : flatD e = true) (h : Rep K H d P v) (h2 : Rep K H e P w) : eqV v w = eqP d e := by
  cases d <;> unfold Rep at h <;> first | (simp [flatD] at f; done) | skip
  all_goals (cases e <;> unfold Rep at h2 <;> first | (simp [flatD] at g; done) | skip)
  all_goals (subst h; subst h2; simp [eqV, eqP, toPy, PyData.eqv])
theorem flats_rep : ∀ {ds : List D} {vs : List V}, ds.all flatD = true → Reps K H ds P vs → vs.all flatV = true
  | [], _, _, h => by rw [h.nil_iff]; rfl
  | d :: ds, vs, f, h => by
    obtain ⟨v, ws, rfl, h1, h2⟩ := h.cons_iff
    rw [List.all_cons, Bool.and_eq_true] at f ⊢
    exact ⟨flat_rep f.1 h1, flats_rep f.2 h2⟩
theorem inV_rep {x : D} {v : V} (g : flatD x = true) (hx : Rep K H x P v) : ∀ {ds : List D} {vs : List V}, ds.all flatD = true → Reps K H ds P vs → inV v vs = ds.any fun z => eqP z x
  | [], _, _, h => by rw [h.nil_iff]; rfl
  | d :: ds, vs, f, h => by
    obtain ⟨w, ws, rfl, h1, h2⟩ := h.cons_iff
    rw [List.all_cons, Bool.and_eq_true] at f
    have ih := inV_rep g hx f.2 h2
    unfold inV at ih ⊢
    rw [List.any_cons, List.any_cons, ih, flat_eq f.1 g h1 hx]
theorem flatW {d : D} {v : V} (f : flatD d = true) (h : RepW K H d P v) : Rep K H d P v := by
  cases d <;> first | exact h | (simp [flatD] at f)
end
section
variable {X : Cx}
theorem od_eq (hu : X.A.units + 64 < cLine) : OpR X (compareOp .Eq) (rD X.K eqD) := by
  intro pins s σ H x y v u Q I rx ry ⟨P, dx, dy, dz, hm, r1, r2, e, out⟩
  unfold eqD at e
  split at e
  · rename_i c; cases e
    rw [Bool.and_eq_true] at c
    exact op_eqD hu pins s σ H x y v u Q I rx ry ⟨_, _, r1.dp c.1, r2.dp c.2, c.1, c.2, out.bl⟩
  · cases e
theorem od_ne (hu : X.A.units + 64 < cLine) : OpR X (compareOp .NotEq) (rD X.K neD) := by
  intro pins s σ H x y v u Q I rx ry ⟨P, dx, dy, dz, hm, r1, r2, e, out⟩
  unfold neD at e
  split at e
  · rename_i c; cases e
    rw [Bool.and_eq_true] at c
    exact op_neD hu pins s σ H x y v u Q I rx ry ⟨_, _, r1.dp c.1, r2.dp c.2, c.1, c.2, out.bl⟩
  · cases e
theorem od_cmp {op : CmpOp} {f : D → D → R D} {p : Int → Int → Bool} (ho : OpR X (compareOp op) (rI0 fun i j => .bl (p i j))) (hf : ∀ x y z, f x y = .ok z → ∃ i j, x = .int i ∧ y = .int j ∧ z = .bl (p i j)) : OpR X (compareOp op) (rD X.K f) := by
  intro pins s σ H x y v u Q I rx ry ⟨P, dx, dy, dz, hm, r1, r2, e, out⟩
  obtain ⟨i, j, rfl, rfl, rfl⟩ := hf _ _ _ e
  obtain rfl := r1.int
  obtain rfl := r2.int
  exact ho pins s σ H _ _ v u Q I rx ry ⟨_, _, rfl, rfl, out.bl⟩
theorem od_le : OpR X (compareOp .LtE) (rD X.K leD) := od_cmp op_le fun x y z e => by
  cases x <;> cases y <;> simp only [leD, R.ok.injEq, reduceCtorEq] at e
  exact ⟨_, _, rfl, rfl, e.symm⟩
theorem od_gt : OpR X (compareOp .Gt) (rD X.K gtD) := od_cmp op_gt fun x y z e => by
  cases x <;> cases y <;> simp only [gtD, R.ok.injEq, reduceCtorEq] at e
  exact ⟨_, _, rfl, rfl, e.symm⟩
theorem od_ge : OpR X (compareOp .GtE) (rD X.K geD) := od_cmp op_ge fun x y z e => by
  cases x <;> cases y <;> simp only [geD, R.ok.injEq, reduceCtorEq] at e
  exact ⟨_, _, rfl, rfl, e.symm⟩
theorem od_lt : OpR X (compareOp .Lt) (rD X.K ltD) := by
  intro pins s σ H x y v u Q I rx ry ⟨P, dx, dy, dz, hm, r1, r2, e, out⟩
  cases dx <;> cases dy <;> simp only [ltD, R.ok.injEq, reduceCtorEq] at e
  · subst e
    obtain rfl := r1.int
    obtain rfl := r2.int
    exact op_lt pins s σ H _ _ v u Q I rx ry ⟨_, _, rfl, rfl, out.bl⟩
  · subst e
    obtain rfl := r1.str
    obtain rfl := r2.str
    exact op_lt_str pins s σ H _ _ v u Q I rx ry ⟨_, _, rfl, rfl, out.bl⟩
theorem od_isnot : OpR X (compareOp .IsNot) (rD X.K isNotD) := by
  intro pins s σ H x y v u Q I rx ry ⟨P, dx, dy, dz, hm, r1, r2, e, out⟩
  unfold isNotD at e
  split at e
  · cases e
    obtain rfl := r2.non
    exact op_notN pins s σ H _ _ v u Q I rx ry ⟨rfl, by rw [r1.isNon]; exact out.bl⟩
  · cases e
    obtain rfl := r1.bl
    obtain rfl := r2.bl
    exact op_isnot_bl pins s σ H _ _ v u Q I rx ry ⟨_, _, rfl, rfl, out.bl⟩
  · cases e
theorem one_sign {a : Str} (h : a.length = 1) : a = ⟨#[a.cps.getD 0 0]⟩ := by
  refine Str.ext' ?_
  have h : a.cps.size = 1 := h
  apply Array.ext
  · simpa using h
  · intro i h1 h2
    have : i = 0 := by simp at h2; omega
    subst this
    simp [Array.getD, h]
end
end Y

set_option Elab.async false
set_option linter.all false
set_option maxRecDepth 100000
namespace Y
open PySem PySem.Spec PyProof.Rows L2

section
variable {X : Cx} {P0 : Pr} {O W : List Nat} {E : EK} {a b c : Expr} {ma mb mc : EM} {pos : Pos}
theorem ce_bin {op : Operator} {f : D → D → R D} (ho : OpR X (binaryOp op) (rD X.K f)) (ha : CEx X P0 O W E a ma) (hb : CEx X P0 O W E b mb) : CEx X P0 O W E (.BinOp a op b pos) (cOp f ma mb) := PE.imp (pe_op ho ha hb) tM_op
theorem ce_cmp {op : CmpOp} {f : D → D → R D} (ho : OpR X (compareOp op) (rD X.K f)) (ha : CEx X P0 O W E a ma) (hb : CEx X P0 O W E b mb) (hm : behindInMarks op b = false := by rfl) : CEx X P0 O W E (.Compare a [op] [b] pos) (cOp f ma mb) := PE.imp (pe_cmpR ho ha hb hm) tM_op
/-- a handle's truth -/
def truD : D → R Bool
  | .non => .ok false
  | .bl b => .ok b
  | .int i => .ok (i != 0)
  | .str x => if szOk x.length = true then .ok (x.length != 0) else .stk
  | .tup ds => .ok (!ds.isEmpty)
  | .lst ds => .ok (!ds.isEmpty)
  | .arg ns => .ok (!ns.isEmpty)
  | .dik _ _ => .stk
  | .dit _ _ => .stk
  | .ftu ds => .ok (!ds.isEmpty)
  | .tab _ _ => .stk
theorem truD_ok {K : PySem.W.Frag} {H : Hp} {P : Pr} {d : D} {v : V} {k : Bool} (h : truD d = .ok k) (r : RepW K H d P v) : TruV K v H k := by
  cases d <;> simp only [truD, R.ok.injEq, reduceCtorEq] at h
  · rw [r.non]; exact h.symm
  · rw [r.bl]; exact h.symm
  · rw [r.int]; exact h.symm
  · split at h
    · rename_i c; cases h
      rw [r.str]
      exact ⟨of_decide_eq_true c, by
        show (_ != _) = (_ != _)
        simp only [bne, Nat.beq_eq_true_eq]
        congr 1
        exact Bool.eq_iff_iff.mpr (by simp)⟩
    · cases h
  · obtain ⟨a, vs, rfl, h1, h2⟩ := r.tup
    refine .inr (.inl ⟨vs, SqT.of h1, ?_⟩)
    rw [← h]
    rename_i ds
    have := h2.length
    cases vs <;> cases ds <;> simp at this ⊢
  · obtain ⟨a, vs, rfl, h1, h2⟩ := r.lst
    refine .inl ⟨vs, SqL.of h1, ?_⟩
    rw [← h]
    rename_i ds
    have := h2.length
    cases vs <;> cases ds <;> simp at this ⊢
  · obtain ⟨a, rfl, h1⟩ := r.arg
    refine .inl ⟨_, h1, ?_⟩
    rw [← h]
    rename_i ns
    cases ns <;> rfl
  · obtain ⟨a, vs, o, rfl, h1, hdn, h2⟩ := r.ftu
    clear hdn
    refine .inr (.inl ⟨vs, SqT.fz h1, ?_⟩)
    rw [← h]
    rename_i ds
    have := h2.length
    cases vs <;> cases ds <;> simp at this ⊢
abbrev CT (X : Cx) (P0 : Pr) (O W : List Nat) (E : EK) (e : Expr) (m : BM) : Prop := PT X e (tMt X.K P0 O W E m)
def cTru (m : EM) : BM := fun ρ => do
  let (h, ρ1) ← m ρ
  let d ← (h.d ρ1).nox
  let b ← (truD d).nox
  pure (b, ρ1)
theorem ct_val (ha : CEx X P0 O W E a ma) (he : ∀ whole, isTrue a X.env whole = (do let v ← whole; standAt a.pos; holding [v] (truthy v)) := by intro _; rfl) : CT X P0 O W E a (cTru ma) := PT.imp (pt_truth ha he) fun σ H Q ⟨ρ, S, h⟩ =>
  ⟨ρ, S, h.of_bind.mono fun ⟨h1, ρ1⟩ q v H1 S1 k1 r1 => by
    obtain ⟨d, e1, q⟩ := q.of_nox
    obtain ⟨k, e2, q⟩ := q.of_nox
    exact ⟨k, truD_ok e2 (r1.d S1 e1), q H1 S1 k1⟩⟩
/-- a comparison as a test -/
def cBl (m : EM) : BM := fun ρ => do
  let (h, ρ1) ← m ρ
  let d ← h.v.nox
  match d with
  | .bl k => pure (k, ρ1)
  | _ => .stk
theorem tM_bl {m : EM} (σ : St) (H : Hp) (Q : Bool → Hp → Prop) (h : tMt X.K P0 O W E (cBl m) σ H Q) : tTest (tM X.K P0 O W E m) σ H Q := by
  obtain ⟨ρ, S, h⟩ := h
  refine ⟨ρ, S, h.of_bind.mono fun ⟨h1, ρ1⟩ q v H1 S1 k1 r1 => ?_⟩
  obtain ⟨d, e1, q⟩ := q.of_nox
  have r := r1.v e1
  cases d <;> first | (exact q.elim) | skip
  unfold Rep at r
  exact ⟨_, r, q H1 S1 k1⟩
theorem tTest_imp {t t' : TE} (i : ∀ σ H Q, t' σ H Q → t σ H Q) {σ : St} {H : Hp} {Q : Bool → Hp → Prop} (h : tTest t' σ H Q) : tTest t σ H Q := i σ H _ h
theorem ct_cmp {op : CmpOp} {f : D → D → R D} (ho : OpR X (compareOp op) (rD X.K f)) (ha : CEx X P0 O W E a ma) (hb : CEx X P0 O W E b mb) (hm : behindInMarks op b = false := by rfl) : CT X P0 O W E (.Compare a [op] [b] pos) (cBl (cOp f ma mb)) := PT.imp (pt_cmpR ho ha hb hm) fun σ H Q h => tTest_imp tM_op (tM_bl σ H Q h)
def cNotT (m : BM) : BM := fun ρ => do
  let (b, ρ1) ← m ρ
  pure (!b, ρ1)
theorem ct_not {m : BM} (h : CT X P0 O W E a m) : CT X P0 O W E (.UnaryOp .Not a pos) (cNotT m) := PT.imp (pt_not h) fun σ H Q ⟨ρ, S, h⟩ => ⟨ρ, S, h.of_bind.mono fun ⟨b, ρ1⟩ q => q⟩
abbrev CW (X : Cx) (P0 : Pr) (O W : List Nat) (E : EK) (e : Expr) (m : BM) : Prop := PW X e (tMt X.K P0 O W E m)
def cOrT (a b : BM) : BM := fun ρ => do
  let (k, ρ1) ← a ρ
  if k = true then pure (true, ρ1) else b ρ1
theorem cw_or1 {m : BM} (h : CT X P0 O W E a m) : CW X P0 O W E (.BoolOp .Or [a] pos) m := pw_or1 h
theorem cw_or {rest : List Expr} {m n : BM} (h : CT X P0 O W E a m) (h2 : CW X P0 O W E (.BoolOp .Or (b :: rest) pos) n) : CW X P0 O W E (.BoolOp .Or (a :: b :: rest) pos) (cOrT m n) := PW.imp (pw_or h h2) fun σ H Q ⟨ρ, S, h⟩ =>
  ⟨ρ, S, h.of_bind.mono fun ⟨k, ρ1⟩ q H1 S1 k1 => by
    cases k with
    | false => exact ⟨ρ1, S1, (q.keep k1).mono fun ⟨k2, ρ2⟩ q2 H2 S2 k3 => q2 H2 S2 (k1.trans k3)⟩
    | true => exact q H1 S1 k1⟩
theorem ct_w {m : BM} (h : CW X P0 O W E a m) : CT X P0 O W E a m := h.pt
theorem HdR.then {K : PySem.W.Frag} {ρ : Env} {σ : St} {H H1 H2 : Hp} {hd : Hd} {v : V} (k : Keep W σ H H1) (r : HdR K P0 O H1 σ H2 hd v) : HdR K P0 O H σ H2 hd v := r.back k.some
def cAnd (a b : EM) : EM := fun ρ => do
  let (h, ρ1) ← a ρ
  let d ← (h.d ρ1).nox
  let k ← (truD d).nox
  if k = true then b ρ1 else pure (h, ρ1)
def cNot (m : EM) : EM := fun ρ => do
  let (h, ρ1) ← m ρ
  let d ← (h.d ρ1).nox
  let k ← (truD d).nox
  pure (.fr (.bl (!k)), ρ1)
theorem ce_one {op : BoolOp} (h : CEx X P0 O W E a ma) : CEx X P0 O W E (.BoolOp op [a] pos) ma := pe_one h
theorem ce_and {rest : List Expr} (h : CEx X P0 O W E a ma) (h2 : CEx X P0 O W E (.BoolOp .And (b :: rest) pos) mb) : CEx X P0 O W E (.BoolOp .And (a :: b :: rest) pos) (cAnd ma mb) := PE.imp (pe_andT h h2) fun σ H Q ⟨ρ, S, h⟩ =>
  ⟨ρ, S, h.of_bind.mono fun ⟨h1, ρ1⟩ q v H1 S1 k1 r1 => by
    obtain ⟨d, e1, q⟩ := q.of_nox
    obtain ⟨k, e2, q⟩ := q.of_nox
    refine ⟨k, truD_ok e2 (r1.d S1 e1), ?_⟩
    cases k with
    | true => exact ⟨ρ1, S1, (q.keep k1).mono fun ⟨h2, ρ2⟩ q2 w H2 S2 k2 r2 => q2 w H2 S2 (k1.trans k2) (r2.back k1.some)⟩
    | false => exact q v H1 S1 k1 r1⟩
theorem ce_not (h : CEx X P0 O W E a ma) : CEx X P0 O W E (.UnaryOp .Not a pos) (cNot ma) := PE.imp (pe_notT h) fun σ H Q ⟨ρ, S, h⟩ =>
  ⟨ρ, S, h.of_bind.mono fun ⟨h1, ρ1⟩ q v H1 S1 k1 r1 => by
    obtain ⟨d, e1, q⟩ := q.of_nox
    obtain ⟨k, e2, q⟩ := q.of_nox
    exact ⟨k, truD_ok e2 (r1.d S1 e1), (out_of S1 k1 q).bl⟩⟩
def cChain2 (g : D → D → R D) (c : EM) (h2 : Hd) : EM := fun ρ2 => do
  let (h3, ρ3) ← c ρ2
  let y ← (h2.d ρ3).nox
  let w ← (h3.d ρ3).nox
  let z ← (g y w).nox
  pure (.fr z, ρ3)
def cChain (f g : D → D → R D) (a b c : EM) : EM := fun ρ => do
  let (h1, ρ1) ← a ρ
  let (h2, ρ2) ← b ρ1
  let x ← (h1.d ρ2).nox
  let y ← (h2.d ρ2).nox
  let z ← (f x y).nox
  match z with
  | .bl k => if k = true then cChain2 g c h2 ρ2 else .ok (.fr (.bl false), ρ2)
  | _ => .stk
theorem tM_chain {f g : D → D → R D} (σ : St) (H : Hp) (Q : VK) (h : tM X.K P0 O W E (cChain f g ma mb mc) σ H Q) : tChain (rD X.K f) (rD X.K g) (tM X.K P0 O W E ma) (tM X.K P0 O W E mb) (tM X.K P0 O W E mc) σ H Q := by
  obtain ⟨ρ, S, h⟩ := h
  refine ⟨ρ, S, h.of_bind.mono fun ⟨h1, ρ1⟩ q x H1 S1 k1 r1 => ⟨ρ1, S1, (q.keep k1).of_bind.mono fun ⟨h2, ρ2⟩ q2 y H2 S2 k2 r2 => ?_⟩⟩
  obtain ⟨dx, e1, q3⟩ := q2.of_nox
  obtain ⟨dy, e2, q4⟩ := q3.of_nox
  obtain ⟨dz, e3, q5⟩ := q4.of_nox
  refine ⟨FA P0 O σ, dx, dy, dz, S2.dom, (r1.keep S1 k2).d S2 e1, r2.d S2 e2, e3, fun v H3 sm r fr => ?_⟩
  cases dz <;> first | (exact q5.elim) | skip
  rename_i bb
  unfold Rep at r
  refine ⟨bb, r, ?_⟩
  have k3 : Keep W σ H2 H3 := Keep.same sm
  have S3 := S2.same sm
  cases bb with
  | false =>
    refine (if_neg Bool.false_ne_true).mpr ?_
    exact (q5 : ∀ v H', _) (.bl false) H3 S3 ((k1.trans k2).trans k3) ⟨by unfold Rep; rfl, fun z => by cases z⟩
  | true =>
    have q5 : Res E W σ H1 (cChain2 g mc h2 ρ2) _ := q5
    unfold cChain2 at q5
    refine (if_pos rfl).mpr ⟨ρ2, S3, (q5.keep (k2.trans k3)).of_bind.mono fun ⟨h3, ρ3⟩ q6 w H4 S4 k4 r4 => ?_⟩
    obtain ⟨dy2, e5, q7⟩ := q6.of_nox
    obtain ⟨dw, e6, q8⟩ := q7.of_nox
    obtain ⟨du, e7, q9⟩ := q8.of_nox
    exact ⟨FA P0 O σ, dy2, dw, du, S4.dom, ((r2.keep S2 k3).keep S3 k4).d S4 e5, r4.d S4 e6, e7, out_of S4 (((k1.trans k2).trans k3).trans k4) q9⟩
theorem ce_chain {op op' : CmpOp} {f g : D → D → R D} (ho : OpR X (compareOp op) (rD X.K f)) (ho' : OpR X (compareOp op') (rD X.K g)) (ha : CEx X P0 O W E a ma) (hb : CEx X P0 O W E b mb) (hc : CEx X P0 O W E c mc)
    (hm : lastMarks [op, op'] [b, c] = false := by with_unfolding_all rfl) : CEx X P0 O W E (.Compare a [op, op'] [b, c] pos) (cChain f g ma mb mc) := PE.imp (pe_chain ho ho' ha hb hc hm) tM_chain
end
end Y

set_option Elab.async false
set_option linter.all false
set_option maxRecDepth 100000
namespace Y
open PySem PySem.Spec PyProof.Rows L2

def cNil : AM := fun ρ => .ok ([], ρ)
def cCons (a : EM) (as : AM) : AM := fun ρ => do
  let (h, ρ1) ← a ρ
  let (hs, ρ2) ← as ρ1
  pure (h :: hs, ρ2)
def vsOf : List Hd → R (List D)
  | [] => .ok []
  | h :: hs => do
    let d ← h.v.nox
    let ds ← vsOf hs
    pure (d :: ds)
def dsOf : List Hd → Env → R (List D)
  | [], _ => .ok []
  | h :: hs, ρ => do
    let d ← (h.d ρ).nox
    let ds ← dsOf hs ρ
    pure (d :: ds)
def RepWs (K : PySem.W.Frag) (H : Hp) : List D → Pr → List V → Prop
  | [], _, vs => vs = []
  | d :: ds, P, vs => ∃ v ws, vs = v :: ws ∧ RepW K H d P v ∧ RepWs K H ds P ws
theorem R.ok_of {α β : Type} {r : R α} {f : α → R β} {b : β} (h : (r >>= f) = .ok b) : ∃ a, r = .ok a ∧ f a = .ok b := by
  cases r with
  | ok a => exact ⟨a, rfl, h⟩
  | er c ds => cases h
  | stk => cases h
theorem R.nox_of {α : Type} {r : R α} {a : α} (h : r.nox = .ok a) : r = .ok a := by cases r <;> first | exact h | cases h
theorem RepWs.get1 {K : PySem.W.Frag} {H : Hp} {d : D} {P : Pr} {vs : List V} (h : RepWs K H [d] P vs) : ∃ v, vs = [v] ∧ RepW K H d P v := by
  obtain ⟨v, ws, rfl, h1, h2⟩ := h
  have h2 : ws = [] := h2
  subst h2
  exact ⟨v, rfl, h1⟩
theorem RepWs.get2 {K : PySem.W.Frag} {H : Hp} {d e : D} {P : Pr} {vs : List V} (h : RepWs K H [d, e] P vs) : ∃ v w, vs = [v, w] ∧ RepW K H d P v ∧ RepW K H e P w := by
  obtain ⟨v, ws, rfl, h1, h2⟩ := h
  obtain ⟨w, rfl, h3⟩ := RepWs.get1 h2
  exact ⟨v, w, rfl, h1, h3⟩
section
variable {K : PySem.W.Frag} {P0 : Pr} {O W : List Nat} {ρ : Env} {σ : St} {Hs H : Hp}
theorem HdRs.vs : ∀ {hs : List Hd} {vs : List V} {ds : List D}, HdRs K P0 O Hs σ H hs vs → vsOf hs = .ok ds → Reps K H ds (FA P0 O σ) vs
  | [], _, _, r, e => by cases e; have r : _ = [] := r; subst r; exact Reps.nil
  | h :: hs, _, _, ⟨v, ws, e, r1, r2⟩, q => by
    obtain ⟨d, e1, q⟩ := R.ok_of q
    obtain ⟨ds, e2, q⟩ := R.ok_of q
    cases q
    subst e
    exact Reps.cons (r1.v (R.nox_of e1)) (HdRs.vs r2 e2)
theorem HdRs.ds (S : Sim K P0 O W ρ σ H) : ∀ {hs : List Hd} {vs : List V} {ds : List D}, HdRs K P0 O Hs σ H hs vs → dsOf hs ρ = .ok ds → RepWs K H ds (FA P0 O σ) vs
  | [], _, _, r, e => by cases e; exact r
  | h :: hs, _, _, ⟨v, ws, e, r1, r2⟩, q => by
    obtain ⟨d, e1, q⟩ := R.ok_of q
    obtain ⟨ds, e2, q⟩ := R.ok_of q
    cases q
    subst e
    exact ⟨v, ws, rfl, r1.d S (R.nox_of e1), HdRs.ds S r2 e2⟩
end
section
variable {X : Cx} {P0 : Pr} {O W : List Nat} {E : EK} {a b c e : Expr} {es : List Expr} {ma mb mc : EM} {ms : AM} {pos : Pos}
abbrev CA (X : Cx) (P0 : Pr) (O W : List Nat) (E : EK) (es : List Expr) (m : AM) : Prop := PA X es (tMs X.K P0 O W E m)
theorem ca_nil : CA X P0 O W E [] cNil := PA.imp pa_nil fun σ H Q ⟨ρ, S, h⟩ => h [] H S .refl rfl
theorem ca_cons (h : CEx X P0 O W E e ma) (hs : CA X P0 O W E es ms) (hst : starEach (e :: es) X.env = (false, eval e X.env) :: starEach es X.env := by rfl) : CA X P0 O W E (e :: es) (cCons ma ms) := PA.imp (pa_cons h hs hst) fun σ H Q ⟨ρ, S, h⟩ =>
  ⟨ρ, S, h.of_bind.mono fun ⟨h1, ρ1⟩ q v H1 S1 k1 r1 => ⟨ρ1, S1, (q.keep k1).of_bind.mono fun ⟨hs, ρ2⟩ q2 vs H2 S2 k2 r2 => q2 _ H2 S2 (k1.trans k2) ⟨v, vs, rfl, r1.keep S1 k2, HdRs.back k1.some r2⟩⟩⟩
def cTup (m : AM) : EM := fun ρ => do
  let (hs, ρ1) ← m ρ
  let ds ← (vsOf hs).nox
  if szOk ds.length = true then pure (.fr (.tup ds), ρ1) else .stk
def cLst (m : AM) : EM := fun ρ => do
  let (hs, ρ1) ← m ρ
  let ds ← (vsOf hs).nox
  if szOk ds.length = true then pure (.fr (.lst ds), ρ1) else .stk
theorem ce_tup {x1} (h : CA X P0 O W E es ms) : CEx X P0 O W E (.Tuple es x1 pos) (cTup ms) := PE.imp (pe_tup h) fun σ H Q ⟨ρ, S, h⟩ =>
  ⟨ρ, S, h.of_bind.mono fun ⟨hs, ρ1⟩ q vs H1 S1 k1 r1 => by
    obtain ⟨ds, e1, q⟩ := q.of_nox
    have rr := HdRs.vs r1 e1
    by_cases c : szOk ds.length = true
    · rw [if_pos c] at q
      exact ⟨by rw [rr.length]; exact of_decide_eq_true c, fun p hp => (out_of S1 k1 q).newT S1.dom rr hp⟩
    · rw [if_neg c] at q
      exact q.elim⟩
theorem ce_lst (h : CA X P0 O W E es ms) : CEx X P0 O W E (.List es pos) (cLst ms) := PE.imp (pe_lst h) fun σ H Q ⟨ρ, S, h⟩ =>
  ⟨ρ, S, h.of_bind.mono fun ⟨hs, ρ1⟩ q vs H1 S1 k1 r1 => by
    obtain ⟨ds, e1, q⟩ := q.of_nox
    have rr := HdRs.vs r1 e1
    by_cases c : szOk ds.length = true
    · rw [if_pos c] at q
      exact ⟨by rw [rr.length]; exact of_decide_eq_true c, fun p hp => (out_of S1 k1 q).newL S1.dom rr hp⟩
    · rw [if_neg c] at q
      exact q.elim⟩

def cCall (f : List D → R D) (m : AM) : EM := fun ρ => do
  let (hs, ρ1) ← m ρ
  let ds ← (dsOf hs ρ1).nox
  let z ← (f ds).nox
  pure (.fr z, ρ1)
def rDs (K : PySem.W.Frag) (f : List D → R D) : List V → Hp → VK → Prop := fun xs H Q => ∃ (P : Pr) (ds : List D) (dz : D), (∀ b, P b → isMut (H b)) ∧ RepWs K H ds P xs ∧ f ds = .ok dz ∧ Out K P H dz Q
theorem tM_call {f : List D → R D} (σ : St) (H : Hp) (Q : VK) (h : tM X.K P0 O W E (cCall f ms) σ H Q) : tCB (rDs X.K f) (tMs X.K P0 O W E ms) σ H Q := by
  obtain ⟨ρ, S, h⟩ := h
  refine ⟨ρ, S, h.of_bind.mono fun ⟨hs, ρ1⟩ q vs H1 S1 k1 r1 => ?_⟩
  obtain ⟨ds, e1, q⟩ := q.of_nox
  obtain ⟨z, e2, q⟩ := q.of_nox
  exact ⟨FA P0 O σ, ds, z, S1.dom, HdRs.ds S1 r1 e1, e2, out_of S1 k1 q⟩
theorem ce_callB {f : List D → R D} {id : String} {x : Str} {p : Pos} (hc : CallR X (.builtin id) (rDs X.K f)) (hm : X.mg x = none) (hv : bootBuiltins x = some (.builtin id)) (ha : CA X P0 O W E (e :: es) ms) (hg : Gl X x := by rfl) (hn : x ≠ "__name__" := by decide) (hdb : (x == ("__debug__" : Str)) = false := by decide)
    (he : starEach (e :: es) X.env = (false, eval e X.env) :: starEach es X.env := by rfl) (hpl : (backTo pos (starEach es X.env)).any (·.1) = false := by rfl) : CEx X P0 O W E (.Call (.Name x p) (e :: es) [] pos) (cCall f ms) := PE.imp (pe_callB hc hg hm hv ha hn hdb he hpl) tM_call
theorem ce_callT {f : List D → R D} {T : String} {x : Str} {p : Pos} (hc : CallR X (.type T) (rDs X.K f)) (hm : X.mg x = none) (hv : bootBuiltins x = some (.type T)) (ha : CA X P0 O W E (e :: es) ms) (hg : Gl X x := by rfl) (hn : x ≠ "__name__" := by decide) (hdb : (x == ("__debug__" : Str)) = false := by decide)
    (he : starEach (e :: es) X.env = (false, eval e X.env) :: starEach es X.env := by rfl) (hpl : (backTo pos (starEach es X.env)).any (·.1) = false := by rfl) : CEx X P0 O W E (.Call (.Name x p) (e :: es) [] pos) (cCall f ms) := PE.imp (pe_callTy hc hg hm hv ha hn hdb he hpl) tM_call
def lenD : List D → R D
  | [.str x] => if szOk x.length = true then .ok (.int x.length) else .stk
  | [.tup ds] => .ok (.int ds.length)
  | [.lst ds] => .ok (.int ds.length)
  | [.arg ns] => .ok (.int ns.length)
  | [.ftu ds] => .ok (.int ds.length)
  | _ => .stk
def max2D : List D → R D
  | [.int i, .int j] => .ok (.int (max i j))
  | _ => .stk
def min2D : List D → R D
  | [.int i, .int j] => .ok (.int (min i j))
  | _ => .stk
def divmodD : List D → R D
  | [.int i, .int j] => if smallPos j = true then .ok (.tup [.int (i / j), .int (i % j)]) else .stk
  | _ => .stk
/-- the ints of a list -/
def intsOf : List D → Option (List Int)
  | [] => some []
  | .int i :: ds => (intsOf ds).map (i :: ·)
  | _ => none
def blsOf : List D → Option (List Bool)
  | [] => some []
  | .bl i :: ds => (blsOf ds).map (i :: ·)
  | _ => none
def strsOf : List D → Option (List Str)
  | [] => some []
  | .str i :: ds => (strsOf ds).map (i :: ·)
  | _ => none
def sumD : List D → R D
  | [.lst ds] => match intsOf ds with
    | some ns => .ok (.int ns.sum)
    | none => .stk
  | _ => .stk
def allD : List D → R D
  | [.lst ds] => match blsOf ds with
    | some bs => .ok (.bl (bs.all id))
    | none => .stk
  | _ => .stk
def anyD : List D → R D
  | [.lst ds] => match blsOf ds with
    | some bs => .ok (.bl (bs.any id))
    | none => .stk
  | _ => .stk
/-- tuple(x), list(x) -/
def tupleD : List D → R D
  | [.lst ds] => .ok (.tup ds)
  | [.tup ds] => .ok (.tup ds)
  | [.ftu ds] => .ok (.ftu ds)
  | _ => .stk
def intOfD : List D → R D
  | [.int i] => .ok (.int i)
  | [.bl k] => .ok (.int (if k then 1 else 0))
  | [.str x] => if x.length = 1 ∧ 48 ≤ x.cps.getD 0 0 ∧ x.cps.getD 0 0 < 58 then .ok (.int ((x.cps.getD 0 0 : Nat) - 48)) else .stk
  | _ => .stk
theorem ints_rep {K : PySem.W.Frag} {H : Hp} {P : Pr} : ∀ {ds : List D} {ns : List Int} {vs : List V}, intsOf ds = some ns → Reps K H ds P vs → vs = ns.map V.int
  | [], ns, vs, e, h => by simp [intsOf] at e; subst e; exact h.nil_iff
  | d :: ds, ns, vs, e, h => by
    cases d <;> simp [intsOf] at e
    obtain ⟨ms, e1, rfl⟩ := e
    obtain ⟨v, ws, rfl, h1, h2⟩ := h.cons_iff
    unfold Rep at h1
    rw [h1, ints_rep e1 h2]
    rfl
theorem bls_rep {K : PySem.W.Frag} {H : Hp} {P : Pr} : ∀ {ds : List D} {ns : List Bool} {vs : List V}, blsOf ds = some ns → Reps K H ds P vs → vs = ns.map V.bl
  | [], ns, vs, e, h => by simp [blsOf] at e; subst e; exact h.nil_iff
  | d :: ds, ns, vs, e, h => by
    cases d <;> simp [blsOf] at e
    obtain ⟨ms, e1, rfl⟩ := e
    obtain ⟨v, ws, rfl, h1, h2⟩ := h.cons_iff
    unfold Rep at h1
    rw [h1, bls_rep e1 h2]
    rfl
theorem strs_rep {K : PySem.W.Frag} {H : Hp} {P : Pr} : ∀ {ds : List D} {ns : List Str} {vs : List V}, strsOf ds = some ns → Reps K H ds P vs → vs = ns.map V.str
  | [], ns, vs, e, h => by simp [strsOf] at e; subst e; exact h.nil_iff
  | d :: ds, ns, vs, e, h => by
    cases d <;> simp [strsOf] at e
    obtain ⟨ms, e1, rfl⟩ := e
    obtain ⟨v, ws, rfl, h1, h2⟩ := h.cons_iff
    unfold Rep at h1
    rw [h1, strs_rep e1 h2]
    rfl
theorem int2_of {f : Int → Int → D} {g : List D → R D} {ds : List D} {z : D} (hg : ∀ ds, g ds = match ds with | [.int i, .int j] => .ok (f i j) | _ => .stk) (h : g ds = .ok z) : ∃ i j, ds = [.int i, .int j] ∧ z = f i j := by
  rw [hg] at h
  split at h
  · cases h; exact ⟨_, _, rfl, rfl⟩
  · cases h
theorem cd_len : CallR X (.builtin "len") (rDs X.K lenD) := by
  intro pins s σ H xs us Q I r ⟨P, ds, dz, hm, rs, e, out⟩
  unfold lenD at e
  split at e
  · split at e
    · rename_i c; cases e
      obtain ⟨v, rfl, r1⟩ := rs.get1
      obtain rfl := r1.str
      exact call_len pins s σ H _ us Q I r ⟨_, _, rfl, ⟨of_decide_eq_true c, rfl⟩, out.int⟩
    · cases e
  · cases e
    obtain ⟨v, rfl, r1⟩ := rs.get1
    obtain ⟨a, vs, rfl, h1, h2⟩ := r1.tup
    rw [← h2.length] at out
    exact call_len pins s σ H _ us Q I r ⟨_, _, rfl, .inr ⟨vs, SqT.of h1, rfl⟩, out.int⟩
  · cases e
    obtain ⟨v, rfl, r1⟩ := rs.get1
    obtain ⟨a, vs, rfl, h1, h2⟩ := r1.lst
    rw [← h2.length] at out
    exact call_len pins s σ H _ us Q I r ⟨_, _, rfl, .inl ⟨vs, SqL.of h1, rfl⟩, out.int⟩
  · cases e
    obtain ⟨v, rfl, r1⟩ := rs.get1
    obtain ⟨a, rfl, h1⟩ := r1.arg
    refine call_len pins s σ H _ us Q I r ⟨_, _, rfl, .inl ⟨_, h1, rfl⟩, ?_⟩
    rw [List.length_map]
    exact out.int
  · cases e
    obtain ⟨v, rfl, r1⟩ := rs.get1
    obtain ⟨a, vs, o, rfl, h1, _, h2⟩ := r1.ftu
    rw [← h2.length] at out
    exact call_len pins s σ H _ us Q I r ⟨_, _, rfl, .inr ⟨vs, SqT.fz h1, rfl⟩, out.int⟩
  · cases e
theorem cd_max (hc : X.calm = true) : CallR X (.builtin "max") (rDs X.K max2D) := by
  intro pins s σ H xs us Q I r ⟨P, ds, dz, hm, rs, e, out⟩
  obtain ⟨i, j, rfl, rfl⟩ := int2_of (f := fun i j => .int (max i j)) (fun ds => by unfold max2D; rfl) e
  obtain ⟨v, w, rfl, r1, r2⟩ := rs.get2
  obtain rfl := r1.int
  obtain rfl := r2.int
  refine call_max2 hc pins s σ H _ us Q I r ⟨i, j, rfl, ?_⟩
  rw [show (if j > i then j else i) = max i j by omega]
  exact out.int
theorem cd_min (hc : X.calm = true) : CallR X (.builtin "min") (rDs X.K min2D) := by
  intro pins s σ H xs us Q I r ⟨P, ds, dz, hm, rs, e, out⟩
  obtain ⟨i, j, rfl, rfl⟩ := int2_of (f := fun i j => .int (min i j)) (fun ds => by unfold min2D; rfl) e
  obtain ⟨v, w, rfl, r1, r2⟩ := rs.get2
  obtain rfl := r1.int
  obtain rfl := r2.int
  refine call_min2 hc pins s σ H _ us Q I r ⟨i, j, rfl, ?_⟩
  rw [show (if j < i then j else i) = min i j by omega]
  exact out.int
theorem cd_divmod : CallR X (.builtin "divmod") (rDs X.K divmodD) := by
  intro pins s σ H xs us Q I r ⟨P, ds, dz, hm, rs, e, out⟩
  unfold divmodD at e
  split at e
  · split at e
    · rename_i c; cases e
      obtain ⟨v, w, rfl, r1, r2⟩ := rs.get2
      obtain rfl := r1.int
      obtain rfl := r2.int
      refine call_divmod pins s σ H _ us Q I r ⟨_, _, rfl, by unfold smallPos at c; have c := of_decide_eq_true c; exact c, fun p hp => out.newT hm (Reps.cons (by unfold Rep; rfl) (Reps.cons (by unfold Rep; rfl) Reps.nil)) hp⟩
    · cases e
  · cases e
theorem cd_sum (hc : X.calm = true) : CallR X (.builtin "sum") (rDs X.K sumD) := by
  intro pins s σ H xs us Q I r ⟨P, ds, dz, hm, rs, e, out⟩
  unfold sumD at e
  split at e
  · split at e
    · rename_i ns c; cases e
      obtain ⟨v, rfl, r1⟩ := rs.get1
      obtain ⟨a, vs, rfl, h1, h2⟩ := r1.lst
      obtain rfl := ints_rep c h2
      exact cr_sum hc pins s σ H _ us Q I r ⟨a, ns, rfl, SqL.of h1, out.int⟩
    · cases e
  · cases e
theorem cd_all (hc : X.calm = true) : CallR X (.builtin "all") (rDs X.K allD) := by
  intro pins s σ H xs us Q I r ⟨P, ds, dz, hm, rs, e, out⟩
  unfold allD at e
  split at e
  · split at e
    · rename_i ns c; cases e
      obtain ⟨v, rfl, r1⟩ := rs.get1
      obtain ⟨a, vs, rfl, h1, h2⟩ := r1.lst
      obtain rfl := bls_rep c h2
      exact cr_all hc pins s σ H _ us Q I r ⟨a, ns, rfl, SqL.of h1, out.bl⟩
    · cases e
  · cases e
theorem cd_any (hc : X.calm = true) : CallR X (.builtin "any") (rDs X.K anyD) := by
  intro pins s σ H xs us Q I r ⟨P, ds, dz, hm, rs, e, out⟩
  unfold anyD at e
  split at e
  · split at e
    · rename_i ns c; cases e
      obtain ⟨v, rfl, r1⟩ := rs.get1
      obtain ⟨a, vs, rfl, h1, h2⟩ := r1.lst
      obtain rfl := bls_rep c h2
      exact cr_any hc pins s σ H _ us Q I r ⟨a, ns, rfl, SqL.of h1, out.bl⟩
    · cases e
  · cases e
theorem cd_tuple : CallR X (.type "tuple") (rDs X.K tupleD) := by
  intro pins s σ H xs us Q I r ⟨P, ds, dz, hm, rs, e, out⟩
  unfold tupleD at e
  split at e
  · cases e
    obtain ⟨v, rfl, r1⟩ := rs.get1
    obtain ⟨a, vs, rfl, h1, h2⟩ := r1.lst
    exact call_tuple_of pins s σ H _ us Q I r ⟨a, vs, rfl, .inl ⟨SqL.of h1, fun l hl => out.newT hm h2 hl⟩⟩
  · cases e
    obtain ⟨v, rfl, r1⟩ := rs.get1
    obtain ⟨a, vs, rfl, h1, h2⟩ := r1.tup
    exact call_tuple_of pins s σ H _ us Q I r ⟨a, vs, rfl, .inr ⟨SqT.of h1, out.flat (Rep.tup_of h1 h2) rfl⟩⟩
  · cases e
    obtain ⟨v, rfl, r1⟩ := rs.get1
    obtain ⟨a, vs, o, rfl, h1, hd, h2⟩ := r1.ftu
    exact call_tuple_of pins s σ H _ us Q I r ⟨a, vs, rfl, .inr ⟨SqT.fz h1, out.flat (Rep.ftu_of h1 hd h2) rfl⟩⟩
  · cases e
theorem digit_text : ∀ c : Nat, 48 ≤ c → c < 58 → PySem.intText? ⟨#[c]⟩ = some ((c : Int) - 48) := by
  intro c h1 h2
  have : c = 48 ∨ c = 49 ∨ c = 50 ∨ c = 51 ∨ c = 52 ∨ c = 53 ∨ c = 54 ∨ c = 55 ∨ c = 56 ∨ c = 57 := by omega
  rcases this with rfl | rfl | rfl | rfl | rfl | rfl | rfl | rfl | rfl | rfl <;> decide +kernel
theorem cd_int : CallR X (.type "int") (rDs X.K intOfD) := by
  intro pins s σ H xs us Q I r ⟨P, ds, dz, hm, rs, e, out⟩
  unfold intOfD at e
  split at e
  · cases e
    obtain ⟨v, rfl, r1⟩ := rs.get1
    obtain rfl := r1.int
    exact call_int1 pins s σ H _ us Q I r (.inl ⟨_, rfl, out.int⟩)
  · cases e
    obtain ⟨v, rfl, r1⟩ := rs.get1
    obtain rfl := r1.bl
    exact call_int1 pins s σ H _ us Q I r (.inr ⟨_, rfl, out.int⟩)
  · split at e
    · rename_i x c; cases e
      obtain ⟨v, rfl, r1⟩ := rs.get1
      obtain rfl := r1.str
      refine call_int_str pins s σ H _ us Q I r ⟨x, _, rfl, ?_, by rw [c.1]; decide, out.int⟩
      have q := digit_text _ c.2.1 c.2.2
      rw [one_sign c.1]
      exact q
    · cases e
  · cases e
end
end Y

set_option Elab.async false
set_option linter.all false
set_option maxRecDepth 100000
namespace Y
open PySem PySem.Spec PyProof.Rows L2

def ixD : D → D → R D
  | .str x, .int i => match atI x.cps.toList i with
    | some c => if szOk x.length = true then .ok (.str ⟨#[c]⟩) else .stk
    | none => .stk
  | .tup ds, .int i => match atI ds i with | some d => .ok d | none => .stk
  | .lst ds, .int i => match atI ds i with | some d => .ok d | none => .stk
  | .arg ns, .int i => match atI ns i with | some n => .ok (.int n) | none => .stk
  | .ftu ds, .int i => match atI ds i with | some d => .ok d | none => .stk
  | _, _ => .stk
def cIx (a b : EM) : EM := fun ρ => do
  let (h1, ρ1) ← a ρ
  let (h2, ρ2) ← b ρ1
  let x ← (h1.d ρ2).nox
  let y ← (h2.d ρ2).nox
  let z ← (ixD x y).nox
  pure (.vl z, ρ2)
theorem Reps.atI {K : PySem.W.Frag} {H : Hp} {P : Pr} {ds : List D} {vs : List V} {i : Int} {d : D} (h : Reps K H ds P vs) (e : L2.atI ds i = some d) : ∃ v, L2.atI vs i = some v ∧ Rep K H d P v := by
  unfold L2.atI at e ⊢
  rw [h.length]
  cases q : ixN ds.length i with
  | none => rw [q] at e; cases e
  | some j => rw [q] at e; exact h.get e
theorem ints_atI {ns : List Int} {i n : Int} (e : atI ns i = some n) : atI (ns.map V.int) i = some (.int n) := by
  unfold atI at e ⊢
  rw [List.length_map]
  cases q : ixN ns.length i with
  | none => rw [q] at e; cases e
  | some j =>
    rw [q] at e
    show (ns.map V.int)[j]? = _
    rw [List.getElem?_map, show ns[j]? = some n from e]
    rfl
/-- the items of ds[lo:hi] -/
def cutD (ds : List D) (lo hi : Option Int) : List D := (ds.drop (HT.sIx ds.length 0 lo)).take (HT.sIx ds.length ds.length hi - HT.sIx ds.length 0 lo)
theorem Reps.drop {K : PySem.W.Frag} {H : Hp} {P : Pr} : ∀ (n : Nat) {ds : List D} {vs : List V}, Reps K H ds P vs → Reps K H (ds.drop n) P (vs.drop n)
  | 0, _, _, h => h
  | n + 1, [], _, h => by rw [h.nil_iff]; exact Reps.nil
  | n + 1, d :: ds, _, h => by
    obtain ⟨v, ws, rfl, _, h2⟩ := h.cons_iff
    exact Reps.drop n h2
theorem Reps.take {K : PySem.W.Frag} {H : Hp} {P : Pr} : ∀ (n : Nat) {ds : List D} {vs : List V}, Reps K H ds P vs → Reps K H (ds.take n) P (vs.take n)
  | 0, _, _, h => Reps.nil
  | n + 1, [], _, h => by rw [h.nil_iff]; exact Reps.nil
  | n + 1, d :: ds, _, h => by
    obtain ⟨v, ws, rfl, h1, h2⟩ := h.cons_iff
    exact Reps.cons h1 (Reps.take n h2)
theorem Reps.cut {K : PySem.W.Frag} {H : Hp} {P : Pr} {ds : List D} {vs : List V} (h : Reps K H ds P vs) (lo hi : Option Int) : Reps K H (cutD ds lo hi) P (cutV vs lo hi) := by
  unfold cutD cutV
  rw [h.length]
  exact (h.drop _).take _
def sliceD : D → Option Int → Option Int → R D
  | .str x, lo, hi => if szOk x.length = true then .ok (.str (cutS x lo hi)) else .stk
  | .tup ds, lo, hi => .ok (.tup (cutD ds lo hi))
  | .lst ds, lo, hi => .ok (.lst (cutD ds lo hi))
  | _, _, _ => .stk
abbrev OM := Env → R (Option Int × Env)
def cNoPart : OM := fun ρ => .ok (none, ρ)
def cPart (m : EM) : OM := fun ρ => do
  let (h, ρ1) ← m ρ
  let d ← h.v.nox
  match d with
  | .int i => pure (some i, ρ1)
  | _ => .stk
def cSlice (a : EM) (lo hi : OM) : EM := fun ρ => do
  let (h, ρ1) ← a ρ
  let (l, ρ2) ← lo ρ1
  let (u, ρ3) ← hi ρ2
  let d ← (h.d ρ3).nox
  let z ← (sliceD d l u).nox
  pure (.fr z, ρ3)
def tMo (K : PySem.W.Frag) (P0 : Pr) (O W : List Nat) (E : EK) (m : OM) : TO := fun σ H Q => ∃ ρ, Sim K P0 O W ρ σ H ∧ Res E W σ H (m ρ) fun a => ∀ H', Sim K P0 O W a.2 σ H' → Keep W σ H H' → Q a.1 H'
theorem PO.imp {X : Cx} {e : Option Expr} {t t' : TO} (h : PO X e t) (i : ∀ σ H Q, t' σ H Q → t σ H Q) : PO X e t' := by
  cases h with
  | mk h => exact ⟨fun pins s σ H Q I q => h pins s σ H Q I (i σ H Q q)⟩
section
variable {X : Cx} {P0 : Pr} {O W : List Nat} {E : EK} {a b c e : Expr} {es : List Expr} {ma mb mc : EM} {ms : AM} {pos : Pos}
abbrev CO (X : Cx) (P0 : Pr) (O W : List Nat) (E : EK) (e : Option Expr) (m : OM) : Prop := PO X e (tMo X.K P0 O W E m)
theorem co_none : CO X P0 O W E none cNoPart := PO.imp po_none fun σ H Q ⟨ρ, S, h⟩ => h H S .refl
theorem co_some (h : CEx X P0 O W E e ma) : CO X P0 O W E (some e) (cPart ma) := PO.imp (po_some h) fun σ H Q ⟨ρ, S, h⟩ =>
  ⟨ρ, S, h.of_bind.mono fun ⟨h1, ρ1⟩ q v H1 S1 k1 r1 => by
    obtain ⟨d, e1, q⟩ := q.of_nox
    have r := r1.v e1
    cases d <;> first | (exact q.elim) | skip
    unfold Rep at r
    exact ⟨_, r, q H1 S1 k1⟩⟩
theorem ce_ix (ha : CEx X P0 O W E a ma) (hb : CEx X P0 O W E b mb) (hs : PlainIx b := by intro _ _; rfl) : CEx X P0 O W E (.Subscript a b pos) (cIx ma mb) := PE.imp (pe_ix ix_seq ha hb hs) fun σ H Q ⟨ρ, S, h⟩ => by
  refine ⟨ρ, S, h.of_bind.mono fun ⟨h1, ρ1⟩ q x H1 S1 k1 r1 => ⟨ρ1, S1, (q.keep k1).of_bind.mono fun ⟨h2, ρ2⟩ q2 y H2 S2 k2 r2 => ?_⟩⟩
  obtain ⟨dx, e1, q3⟩ := q2.of_nox
  obtain ⟨dy, e2, q4⟩ := q3.of_nox
  obtain ⟨dz, e3, q5⟩ := q4.of_nox
  have rx := (r1.keep S1 k2).d S2 e1
  have ry := r2.d S2 e2
  have fin : ∀ v, Rep X.K H2 dz (FA P0 O σ) v → Q v H2 := fun v r => q5 v H2 S2 (k1.trans k2) r
  unfold ixD at e3
  split at e3
  · split at e3
    · split at e3
      · rename_i c' hc z; cases e3
        obtain rfl := rx.str
        obtain rfl := ry.int
        exact .inr (.inr ⟨_, _, _, rfl, rfl, of_decide_eq_true z, hc, fin _ (by unfold Rep; rfl)⟩)
      · cases e3
    · cases e3
  · split at e3
    · rename_i d hd; cases e3
      obtain ⟨p, vs, rfl, t1, t2⟩ := rx.tup
      obtain rfl := ry.int
      obtain ⟨v, e4, r4⟩ := t2.atI hd
      exact .inr (.inl ⟨p, vs, _, v, rfl, rfl, SqT.of t1, e4, fin v r4⟩)
    · cases e3
  · split at e3
    · rename_i d hd; cases e3
      obtain ⟨p, vs, rfl, t1, t2⟩ := rx.lst
      obtain rfl := ry.int
      obtain ⟨v, e4, r4⟩ := t2.atI hd
      exact .inl ⟨p, vs, _, v, rfl, rfl, SqL.of t1, e4, fin v r4⟩
    · cases e3
  · split at e3
    · rename_i d hd; cases e3
      obtain ⟨p, rfl, t1⟩ := rx.arg
      obtain rfl := ry.int
      exact .inl ⟨p, _, _, _, rfl, rfl, t1, ints_atI hd, fin _ (by unfold Rep; rfl)⟩
    · cases e3
  · split at e3
    · rename_i d hd; cases e3
      obtain ⟨p, vs, o, rfl, t1, _, t2⟩ := rx.ftu
      obtain rfl := ry.int
      obtain ⟨v, e4, r4⟩ := t2.atI hd
      exact .inr (.inl ⟨p, vs, _, v, rfl, rfl, SqT.fz t1, e4, fin v r4⟩)
    · cases e3
  · cases e3
theorem ce_slice {lo hi : Option Expr} {ml mh : OM} {p2 : Pos} (ha : CEx X P0 O W E a ma) (hl : CO X P0 O W E lo ml) (hh : CO X P0 O W E hi mh) : CEx X P0 O W E (.Subscript a (.Slice lo hi none p2) pos) (cSlice ma ml mh) := PE.imp (pe_slice (sl_list.or (sl_tupA.or sl_str)) ha hl hh) fun σ H Q ⟨ρ, S, h⟩ => by
  refine ⟨ρ, S, h.of_bind.mono fun ⟨h1, ρ1⟩ q x H1 S1 k1 r1 => ⟨ρ1, S1, (q.keep k1).of_bind.mono fun ⟨l, ρ2⟩ q2 H2 S2 k2 => ⟨ρ2, S2, (q2.keep k2).of_bind.mono fun ⟨u, ρ3⟩ q3 H3 S3 k3 => ?_⟩⟩⟩
  obtain ⟨dx, e1, q4⟩ := q3.of_nox
  obtain ⟨dz, e3, q5⟩ := q4.of_nox
  have rx := (r1.keep S1 (k2.trans k3)).d S3 e1
  have out := out_of S3 ((k1.trans k2).trans k3) q5
  unfold sliceD at e3
  split at e3
  · split at e3
    · rename_i z; cases e3
      obtain rfl := rx.str
      exact .inr (.inr ⟨_, rfl, of_decide_eq_true z, out.str⟩)
    · cases e3
  · cases e3
    obtain ⟨p, vs, rfl, t1, t2⟩ := rx.tup
    have t3 := t2.cut l u
    refine .inr (.inl ⟨p, vs, rfl, SqT.of t1, fun z => ?_, fun _ p hp => out.newT S3.dom t3 hp⟩)
    have e4 : cutV vs l u = vs := by
      unfold cutV
      rw [z.1, z.2, List.drop_zero, Nat.sub_zero, List.take_length]
    rw [e4] at t3
    exact out.flat (Rep.tup_of t1 t3) rfl
  · cases e3
    obtain ⟨p, vs, rfl, t1, t2⟩ := rx.lst
    exact .inl ⟨p, vs, rfl, SqL.of t1, fun p hp => out.newL S3.dom (t2.cut l u) hp⟩
  · cases e3
end

/-- behind a statement or an expression: U: own slots that keep their objects -/
structure Tr (O U : List Nat) (σ : St) (H : Hp) (σ' : St) (H' : Hp) : Prop where
  keep : ∀ b o, H b = some o → ¬ OA O σ b → H' b = some o
  some : ∀ b, H b ≠ none → H' b ≠ none
  own : ∀ b, OA O σ' b → OA O σ b ∨ H b = none
  unch : ∀ i ∈ U, σ'[i]? = σ[i]?
theorem Tr.of {O W U : List Nat} {σ : St} {H H' : Hp} (hs : ∀ i ∈ W, i ∈ O) (k : Keep W σ H H') : Tr O U σ H σ H' := ⟨fun b o e n => k.keep b o e fun ⟨i, hi, z⟩ => n ⟨i, hs i hi, z⟩, k.some, fun _ z => .inl z, fun _ _ => rfl⟩
theorem Tr.refl {O U : List Nat} {σ : St} {H : Hp} : Tr O U σ H σ H := ⟨fun _ _ e _ => e, fun _ e => e, fun _ z => .inl z, fun _ _ => rfl⟩
theorem Tr.trans {O U : List Nat} {σ σ1 σ2 : St} {H H1 H2 : Hp} (a : Tr O U σ H σ1 H1) (b : Tr O U σ1 H1 σ2 H2) : Tr O U σ H σ2 H2 where
  keep := fun c o e n => b.keep c o (a.keep c o e n) fun z => by
    rcases a.own c z with z | z
    · exact n z
    · rw [e] at z; cases z
  some := fun c e => b.some c (a.some c e)
  own := fun c z => by
    rcases b.own c z with z | z
    · exact a.own c z
    · exact .inr (Classical.byContradiction fun q => a.some c q z)
  unch := fun i hi => (b.unch i hi).trans (a.unch i hi)
theorem Tr.less {O U U' : List Nat} {σ σ1 : St} {H H1 : Hp} (a : Tr O U σ H σ1 H1) (h : ∀ i ∈ U', i ∈ U) : Tr O U' σ H σ1 H1 := ⟨a.keep, a.some, a.own, fun i hi => a.unch i (h i hi)⟩
section
variable {K : PySem.W.Frag} {P0 : Pr} {O W U : List Nat} {ρ ρ' : Env} {σ σ' : St} {H H' : Hp}
end
end Y

set_option Elab.async false
set_option linter.all false
set_option maxRecDepth 100000
namespace Y
open PySem PySem.Spec PyProof.Rows L2

/-- v is the datum d that the handle tells, and stays so -/
def Hold (K : PySem.W.Frag) (O : List Nat) (h : Hd) (d : D) (v : V) (P0 : Pr) (ρ : Env) (σ : St) (H : Hp) : Prop := match h with
  | .ow i => i ∈ O ∧ ρ[i]? = some (some d) ∧ σ[i]? = some (some v)
  | _ => Rep K H d (FA P0 O σ) v
def Hd.ws : Hd → List Nat
  | .ow i => [i]
  | _ => []
section
variable {K : PySem.W.Frag} {P0 P1 : Pr} {O W : List Nat} {ρ ρ' : Env} {σ σ' : St} {H H' Hs : Hp} {h : Hd} {d : D} {v : V}
theorem Hold.rep (S : Sim K P0 O W ρ σ H) (o : Hold K O h d v P0 ρ σ H) : RepW K H d (FA P0 O σ) v := by
  cases h with
  | fr d' => exact Rep.weak S.dom o
  | vl d' => exact Rep.weak S.dom o
  | ow i =>
    obtain ⟨w, h1, h2⟩ := S.own i d o.2.1 o.1
    rw [o.2.2] at h1; cases h1
    exact h2.weak
theorem HdR.hold (r : HdR K P0 O Hs σ H h v) (e : h.d ρ = .ok d) : Hold K O h d v P0 ρ σ H := by
  cases h with
  | fr d' => cases e; exact r.1
  | vl d' => cases e; exact r
  | ow i => exact ⟨r.1, look_some e, r.2⟩
theorem Hold.keep (S : Sim K P0 O W ρ σ H) (o : Hold K O h d v P0 ρ σ H) (k : ∀ b o, H b = some o → ¬ FA P0 O σ b → H' b = some o) (w : ∀ b, FA P0 O σ' b → FA P0 O σ b ∨ H b = none)
    (hw : ∀ w ∈ h.ws, σ'[w]? = σ[w]? ∧ ρ'[w]? = ρ[w]?) : Hold K O h d v P0 ρ' σ' H' := by
  cases h with
  | fr d' => exact Rep.mono d S.dom k w o
  | vl d' => exact Rep.mono d S.dom k w o
  | ow i =>
    obtain ⟨h1, h2⟩ := hw i (by simp [Hd.ws])
    exact ⟨o.1, h2.trans o.2.1, h1.trans o.2.2⟩
theorem Hold.grow (S : Sim K P0 O W ρ σ H) (o : Hold K O h d v P0 ρ σ H) (w : ∀ b, P1 b → P0 b ∨ H b = none) (k : Same H H') : Hold K O h d v P1 ρ σ H' := by
  have q : ∀ b, FA P1 O σ b → FA P0 O σ b ∨ H b = none := fun b z => by
    rcases z with z | z
    · rcases w b z with z | z
      · exact .inl (.inl z)
      · exact .inr z
    · exact .inl (.inr z)
  cases h with
  | fr d' => exact Rep.mono d S.dom (fun b o e _ => k b o e) q o
  | vl d' => exact Rep.mono d S.dom (fun b o e _ => k b o e) q o
  | ow i => exact o
end
theorem Hold.mem {K : PySem.W.Frag} {P0 : Pr} {O : List Nat} {ρ : Env} {σ : St} {H : Hp} {h : Hd} {d : D} {v : V} (o : Hold K O h d v P0 ρ σ H) : ∀ w ∈ h.ws, w ∈ O := by
  cases h with
  | fr _ => exact fun w z => nomatch z
  | vl _ => exact fun w z => nomatch z
  | ow i =>
    intro w z
    have z : w = i := by simpa [Hd.ws] using z
    rw [z]; exact o.1
/-- an iterator gives ds; ws: own slots that it reads from; Ok: what must stay -/
structure Src (K : PySem.W.Frag) (O W : List Nat) (ds : List D) (ws : List Nat) (J : It) (Ok : Pr → Env → St → Hp → Prop) : Prop where
  go : ∀ P0 i ρ σ H, Sim K P0 O W ρ σ H → Ok P0 ρ σ H → i < ds.length → J.go i H
  stop : ∀ P0 ρ σ H, Sim K P0 O W ρ σ H → Ok P0 ρ σ H → J.stop ds.length H
  yld : ∀ P0 (i : Nat) ρ σ H x H' d, Sim K P0 O W ρ σ H → Ok P0 ρ σ H → ds[i]? = some d → J.yld i H x H' → Same H H' ∧ Rep K H' d (FA P0 O σ) x
  keep : ∀ P0 ρ σ H ρ' σ' H', Sim K P0 O W ρ σ H → (∀ b o, H b = some o → ¬ FA P0 O σ b → H' b = some o) → (∀ b, FA P0 O σ' b → FA P0 O σ b ∨ H b = none) → (∀ w ∈ ws, σ'[w]? = σ[w]? ∧ ρ'[w]? = ρ[w]?) → Ok P0 ρ σ H → Ok P0 ρ' σ' H'
  mem : ∀ P0 ρ σ H, Ok P0 ρ σ H → ∀ w ∈ ws, w ∈ O
  grow : ∀ P0 P1 ρ σ H H', Sim K P0 O W ρ σ H → (∀ b, P1 b → P0 b ∨ H b = none) → Same H H' → Ok P0 ρ σ H → Ok P1 ρ σ H'
abbrev IM := Env → R ((List D × List Nat) × Env)
def tMi (K : PySem.W.Frag) (P0 : Pr) (O W : List Nat) (E : EK) (m : IM) : TI := fun σ H R => ∃ ρ, Sim K P0 O W ρ σ H ∧
  Res E W σ H (m ρ) fun a => ∀ J H' Ok, Sim K P0 O W a.2 σ H' → Keep W σ H H' → Src K O W a.1.1 a.1.2 J Ok → Ok P0 a.2 σ H' → a.1.1.length ≤ sizeLine → R J H'
theorem PI.imp {X : Cx} {tg e : Expr} {t t' : TI} (h : PI X tg e t) (i : ∀ σ H R, t' σ H R → t σ H R) : PI X tg e t' := ⟨fun pins s σ H R I q => h.run pins s σ H R I (i σ H R q)⟩
theorem PI.or {X : Cx} {tg e : Expr} {t t' : TI} (h : PI X tg e t) (h' : PI X tg e t') : PI X tg e fun σ H R => t σ H R ∨ t' σ H R :=
  ⟨fun pins s σ H R I q => q.elim (h.run pins s σ H R I) (h'.run pins s σ H R I)⟩
section
variable {K : PySem.W.Frag} {O W : List Nat} {h h2 : Hd}
/-- over a list that a handle tells -/
theorem src_list {a : Addr} {ds : List D} : Src K O W ds h.ws (Itl K a) (Hold K O h (.lst ds) (.ref a)) where
  go := fun P0 i ρ σ H S ok hi => by
    obtain ⟨p, vs, e, t1, t2⟩ := (ok.rep S).lst
    cases e
    exact walk_list.goes i H (by rw [t2.length]; exact hi) (SqL.of t1)
  stop := fun P0 ρ σ H S ok => by
    obtain ⟨p, vs, e, t1, t2⟩ := (ok.rep S).lst
    cases e
    rw [← t2.length]
    exact walk_list.stops H (SqL.of t1)
  yld := fun P0 i ρ σ H x H' d S ok hd y => by
    obtain ⟨p, vs, e, t1, t2⟩ := (ok.rep S).lst
    cases e
    obtain ⟨v, e1, r⟩ := t2.get hd
    obtain ⟨e2, e3⟩ := walk_list.yields i H x H' (by rw [t2.length]; exact (List.getElem?_eq_some_iff.mp hd).1) (SqL.of t1) y
    subst e2
    rw [e1] at e3; cases e3
    exact ⟨fun _ _ z => z, r⟩
  keep := fun P0 ρ σ H ρ' σ' H' S k w hw ok => ok.keep S k w hw
  mem := fun P0 ρ σ H ok => ok.mem
  grow := fun P0 P1 ρ σ H H' S w k ok => ok.grow S w k
theorem src_tup {a : Addr} {ds : List D} : Src K O W ds h.ws (Itt K a) (Hold K O h (.tup ds) (.ref a)) where
  go := fun P0 i ρ σ H S ok hi => by
    obtain ⟨p, vs, e, t1, t2⟩ := (ok.rep S).tup
    cases e
    exact walk_tup.goes i H (by rw [t2.length]; exact hi) (SqT.of t1)
  stop := fun P0 ρ σ H S ok => by
    obtain ⟨p, vs, e, t1, t2⟩ := (ok.rep S).tup
    cases e
    rw [← t2.length]
    exact walk_tup.stops H (SqT.of t1)
  yld := fun P0 i ρ σ H x H' d S ok hd y => by
    obtain ⟨p, vs, e, t1, t2⟩ := (ok.rep S).tup
    cases e
    obtain ⟨v, e1, r⟩ := t2.get hd
    obtain ⟨e2, e3⟩ := walk_tup.yields i H x H' (by rw [t2.length]; exact (List.getElem?_eq_some_iff.mp hd).1) (SqT.of t1) y
    subst e2
    rw [e1] at e3; cases e3
    exact ⟨fun _ _ z => z, r⟩
  keep := fun P0 ρ σ H ρ' σ' H' S k w hw ok => ok.keep S k w hw
  mem := fun P0 ρ σ H ok => ok.mem
  grow := fun P0 P1 ρ σ H H' S w k ok => ok.grow S w k
theorem src_ftu {a : Addr} {ds : List D} : Src K O W ds h.ws (Itt K a) (Hold K O h (.ftu ds) (.ref a)) where
  go := fun P0 i ρ σ H S ok hi => by
    obtain ⟨p, vs, o, e, t1, _, t2⟩ := (ok.rep S).ftu
    cases e
    exact walk_tup.goes i H (by rw [t2.length]; exact hi) (SqT.fz t1)
  stop := fun P0 ρ σ H S ok => by
    obtain ⟨p, vs, o, e, t1, _, t2⟩ := (ok.rep S).ftu
    cases e
    rw [← t2.length]
    exact walk_tup.stops H (SqT.fz t1)
  yld := fun P0 i ρ σ H x H' d S ok hd y => by
    obtain ⟨p, vs, o, e, t1, _, t2⟩ := (ok.rep S).ftu
    cases e
    obtain ⟨v, e1, r⟩ := t2.get hd
    obtain ⟨e2, e3⟩ := walk_tup.yields i H x H' (by rw [t2.length]; exact (List.getElem?_eq_some_iff.mp hd).1) (SqT.fz t1) y
    subst e2
    rw [e1] at e3; cases e3
    exact ⟨fun _ _ z => z, r⟩
  keep := fun P0 ρ σ H ρ' σ' H' S k w hw ok => ok.keep S k w hw
  mem := fun P0 ρ σ H ok => ok.mem
  grow := fun P0 P1 ρ σ H H' S w k ok => ok.grow S w k
theorem src_arg {a : Addr} {ns : List Int} : Src K O W (ns.map D.int) h.ws (Itl K a) (Hold K O h (.arg ns) (.ref a)) where
  go := fun P0 i ρ σ H S ok hi => by
    obtain ⟨p, e, t1⟩ := (ok.rep S).arg
    cases e
    exact walk_list.goes i H (by simpa using hi) t1
  stop := fun P0 ρ σ H S ok => by
    obtain ⟨p, e, t1⟩ := (ok.rep S).arg
    cases e
    have := walk_list.stops H t1
    simpa using this
  yld := fun P0 i ρ σ H x H' d S ok hd y => by
    obtain ⟨p, e, t1⟩ := (ok.rep S).arg
    cases e
    obtain ⟨e2, e3⟩ := walk_list.yields i H x H' (by have := (List.getElem?_eq_some_iff.mp hd).1; simpa using this) t1 y
    subst e2
    rw [List.getElem?_map] at e3 hd
    cases q : ns[i]? with
    | none => rw [q] at hd; cases hd
    | some n => rw [q] at hd e3; cases hd; cases e3; exact ⟨fun _ _ z => z, by unfold Rep; rfl⟩
  keep := fun P0 ρ σ H ρ' σ' H' S k w hw ok => ok.keep S k w hw
  mem := fun P0 ρ σ H ok => ok.mem
  grow := fun P0 P1 ρ σ H H' S w k ok => ok.grow S w k
theorem src_range {lo : Int} {n : Nat} : Src K O W ((List.range n).map fun i => D.int (lo + (i : Nat))) [] (Itr lo n) (fun _ _ _ _ => True) where
  go := fun P0 i ρ σ H S ok hi => by simpa [Itr] using hi
  stop := fun P0 ρ σ H S ok => by simp [Itr]
  yld := fun P0 i ρ σ H x H' d S ok hd y => by
    obtain ⟨e1, e2⟩ := y
    subst e1
    rw [List.getElem?_map] at hd
    cases q : (List.range n)[i]? with
    | none => rw [q] at hd; cases hd
    | some j =>
      rw [q] at hd; cases hd
      have : j = i := by
        obtain ⟨h1, h2⟩ := List.getElem?_eq_some_iff.mp q
        simpa using h2.symm
      subst this
      exact ⟨fun _ _ z => z, by unfold Rep; exact e2⟩
  keep := fun _ _ _ _ _ _ _ _ _ _ _ _ => trivial
  mem := fun _ _ _ _ _ w z => nomatch z
  grow := fun _ _ _ _ _ _ _ _ _ _ => trivial
theorem src_str {z : Str} : Src K O W (z.cps.toList.map fun c => D.str ⟨#[c]⟩) [] (Its z) (fun _ _ _ _ => True) where
  go := fun P0 i ρ σ H S ok hi => by simpa [Its] using hi
  stop := fun P0 ρ σ H S ok => by simp [Its]
  yld := fun P0 i ρ σ H x H' d S ok hd y => by
    obtain ⟨e1, c, e2, e3⟩ := y
    subst e1
    rw [List.getElem?_map, Array.getElem?_toList, e2] at hd
    cases hd
    exact ⟨fun _ _ z => z, by unfold Rep; exact e3⟩
  keep := fun _ _ _ _ _ _ _ _ _ _ _ _ => trivial
  mem := fun _ _ _ _ _ w z => nomatch z
  grow := fun _ _ _ _ _ _ _ _ _ _ => trivial
theorem Src.anyw {ds : List D} {J : It} {Ok : Pr → Env → St → Hp → Prop} (q : Src K O W ds [] J Ok) : Src K O W ds h.ws J (fun P0 ρ σ H => Ok P0 ρ σ H ∧ ∀ w ∈ h.ws, w ∈ O) where
  go := fun P0 i ρ σ H S ok => q.go P0 i ρ σ H S ok.1
  stop := fun P0 ρ σ H S ok => q.stop P0 ρ σ H S ok.1
  yld := fun P0 i ρ σ H x H' d S ok => q.yld P0 i ρ σ H x H' d S ok.1
  keep := fun P0 ρ σ H ρ' σ' H' S k w _ ok => ⟨q.keep P0 ρ σ H ρ' σ' H' S k w (fun _ z => nomatch z) ok.1, ok.2⟩
  mem := fun P0 ρ σ H ok => ok.2
  grow := fun P0 P1 ρ σ H H' S w k ok => ⟨q.grow P0 P1 ρ σ H H' S w k ok.1, ok.2⟩
end
def pairsD : List D → List D → List D
  | x :: xs, y :: ys => .tup [x, y] :: pairsD xs ys
  | _, _ => []
theorem pairsD_len : ∀ xs ys : List D, (pairsD xs ys).length = min xs.length ys.length
  | [], _ => by simp [pairsD]
  | _ :: _, [] => by simp [pairsD]
  | x :: xs, y :: ys => by simp [pairsD, pairsD_len xs ys]
theorem pairsD_get : ∀ {xs ys : List D} {i : Nat} {d : D}, (pairsD xs ys)[i]? = some d → ∃ x y, xs[i]? = some x ∧ ys[i]? = some y ∧ d = .tup [x, y]
  | [], _, _, _, h => by simp [pairsD] at h
  | _ :: _, [], _, _, h => by simp [pairsD] at h
  | x :: xs, y :: ys, 0, d, h => by simp [pairsD] at h; exact ⟨x, y, rfl, rfl, h.symm⟩
  | x :: xs, y :: ys, i + 1, d, h => by simpa using pairsD_get (i := i) (by simpa [pairsD] using h)
/-- a new pair at T -/
theorem pair_rep {K : PySem.W.Frag} {H : Hp} {P : Pr} {x y : D} {v w : V} {T : Addr} (hm : ∀ b, P b → isMut (H b)) (hT : H T = none) (h1 : Rep K H x P v) (h2 : Rep K H y P w) : Same H (upd H T (.tup [v, w])) ∧ Rep K (upd H T (.tup [v, w])) (.tup [x, y]) P (.ref T) :=
  ⟨Same.new hT, Rep.newT hm (Reps.cons h1 (Reps.cons h2 Reps.nil)) hT⟩
section
variable {K : PySem.W.Frag} {O W : List Nat} {h h2 : Hd}
end
section
variable {X : Cx} {P0 : Pr} {O W : List Nat} {E : EK} {a b c e tg : Expr} {es : List Expr} {ma mb mc : EM} {ms : AM} {pos : Pos}
abbrev CI (X : Cx) (P0 : Pr) (O W : List Nat) (E : EK) (tg e : Expr) (m : IM) : Prop := PI X tg e (tMi X.K P0 O W E m)
/-- over a list, a tuple, a text, the script -/
def itD : D → R (List D)
  | .lst ds => .ok ds
  | .tup ds => .ok ds
  | .arg ns => .ok (ns.map D.int)
  | .str z => .ok (z.cps.toList.map fun c => D.str ⟨#[c]⟩)
  | .ftu ds => .ok ds
  | _ => .stk
def cIter (m : EM) : IM := fun ρ => do
  let (h, ρ1) ← m ρ
  let d ← (h.d ρ1).nox
  let ds ← (itD d).nox
  if szOk ds.length = true then pure ((ds, h.ws), ρ1) else .stk
theorem ci_any (ha : CEx X P0 O W E a ma) : CI X P0 O W E tg a (cIter ma) := PI.imp (PI.or (pi_list ha) (PI.or (pi_tup ha) (pi_str ha))) fun σ H _ ⟨ρ, S, h⟩ => by
  unfold cIter at h
  cases em : ma ρ with
  | er c ds =>
    rw [em] at h
    exact .inl ⟨ρ, S, by rw [em]; exact h⟩
  | stk => rw [em] at h; exact h.elim
  | ok p =>
    obtain ⟨h1, ρ1⟩ := p
    rw [em] at h
    obtain ⟨d, ed, h⟩ := Res.of_nox (show Res E W σ H ((h1.d ρ1).nox >>= _) _ from h)
    obtain ⟨ds, ei, h⟩ := h.of_nox
    by_cases c : szOk ds.length = true
    · rw [if_pos c] at h
      have hz := of_decide_eq_true c
      cases d <;> simp only [itD, R.ok.injEq, reduceCtorEq] at ei
      · subst ei
        refine .inr (.inr ⟨ρ, S, ?_⟩)
        rw [em]
        intro v H1 S1 k1 r1
        obtain rfl := (r1.d S1 ed).str
        exact ⟨_, rfl, h _ H1 _ S1 k1 src_str.anyw ⟨trivial, (r1.hold ed).mem⟩ hz⟩
      · subst ei
        refine .inr (.inl ⟨ρ, S, ?_⟩)
        rw [em]
        intro v H1 S1 k1 r1
        obtain ⟨p, vs, rfl, t1, t2⟩ := (r1.d S1 ed).tup
        exact ⟨p, rfl, ⟨vs, SqT.of t1⟩, h _ H1 _ S1 k1 src_tup (r1.hold ed) hz⟩
      · subst ei
        refine .inl ⟨ρ, S, ?_⟩
        rw [em]
        intro v H1 S1 k1 r1
        obtain ⟨p, vs, rfl, t1, t2⟩ := (r1.d S1 ed).lst
        exact ⟨p, rfl, ⟨vs, SqL.of t1⟩, h _ H1 _ S1 k1 src_list (r1.hold ed) hz⟩
      · subst ei
        refine .inl ⟨ρ, S, ?_⟩
        rw [em]
        intro v H1 S1 k1 r1
        obtain ⟨p, rfl, t1⟩ := (r1.d S1 ed).arg
        exact ⟨p, rfl, ⟨_, t1⟩, h _ H1 _ S1 k1 src_arg (r1.hold ed) hz⟩
      · subst ei
        refine .inr (.inl ⟨ρ, S, ?_⟩)
        rw [em]
        intro v H1 S1 k1 r1
        obtain ⟨p, vs, o, rfl, t1, _, t2⟩ := (r1.d S1 ed).ftu
        exact ⟨p, rfl, ⟨vs, SqT.fz t1⟩, h _ H1 _ S1 k1 src_ftu (r1.hold ed) hz⟩
    · rw [if_neg c] at h
      exact h.elim
def rngOk (i : Int) : Bool := decide (-(2 ^ 62) ≤ i ∧ i < 2 ^ 62)
def rng1D : List D → R (List D)
  | [.int j] => if rngOk j = true then .ok ((List.range j.toNat).map fun i => D.int (0 + (i : Nat))) else .stk
  | _ => .stk
def cRange (f : List D → R (List D)) (m : AM) : IM := fun ρ => do
  let (hs, ρ1) ← m ρ
  let ds ← (vsOf hs).nox
  let xs ← (f ds).nox
  if szOk xs.length = true then pure ((xs, []), ρ1) else .stk
theorem ci_range1 {p : Pos} (hm : X.mg "range" = none) (ha : CA X P0 O W E [a] ms) (hg : Gl X "range" := by rfl) (hs : starEach [a] X.env = [(false, eval a X.env)] := by rfl) : CI X P0 O W E tg (.Call (.Name "range" p) [a] [] pos) (cRange rng1D ms) := PI.imp (pi_range1 hg hm ha hs) fun σ H R ⟨ρ, S, h⟩ => by
  refine ⟨ρ, S, h.of_bind.mono fun ⟨hs, ρ1⟩ q vs H1 S1 k1 r1 => ?_⟩
  obtain ⟨ds, e1, q⟩ := q.of_nox
  obtain ⟨xs, e2, q⟩ := q.of_nox
  have rr := HdRs.vs r1 e1
  by_cases c : szOk xs.length = true
  · rw [if_pos c] at q
    unfold rng1D at e2
    split at e2
    · split at e2
      · rename_i j z; cases e2
        obtain ⟨v, ws, rfl, h1, h2⟩ := rr.cons_iff
        have h2 := h2.nil_iff
        subst h2
        unfold Rep at h1
        subst h1
        unfold rngOk at z
        have z := of_decide_eq_true z
        exact ⟨_, rfl, z.1, z.2, q _ H1 _ S1 k1 src_range trivial (of_decide_eq_true c)⟩
      · cases e2
    · cases e2
  · rw [if_neg c] at q
    exact q.elim
end
end Y

set_option Elab.async false
set_option linter.all false
set_option maxRecDepth 100000
namespace Y
open PySem PySem.Spec PyProof.Rows L2

theorem OA_of {O : List Nat} {σ σ' : St} (h : ∀ i ∈ O, σ'[i]? = σ[i]?) (b : Addr) : OA O σ' b ↔ OA O σ b := by
  constructor
  · rintro ⟨i, hi, e⟩; exact ⟨i, hi, (h i hi).symm.trans e⟩
  · rintro ⟨i, hi, e⟩; exact ⟨i, hi, (h i hi).trans e⟩
section
variable {K : PySem.W.Frag} {P0 P1 : Pr} {O W : List Nat} {ρ ρ' : Env} {σ σ' : St} {H H' : Hp} {d : D} {v : V}
theorem FA_of (h : ∀ i ∈ O, σ'[i]? = σ[i]?) (b : Addr) : FA P0 O σ' b ↔ FA P0 O σ b := or_congr Iff.rfl (OA_of h b)
/-- other slots, less known -/
theorem Sim.move (S : Sim K P0 O W ρ σ H) (hl : ρ'.length ≤ σ'.length) (ho : ∀ i ∈ O, σ'[i]? = σ[i]?) (hρ : ∀ i ∈ O, ∀ d, ρ'[i]? = some (some d) → ρ[i]? = some (some d))
    (hv : ∀ (i : Nat) d, ρ'[i]? = some (some d) → i ∉ O → ∃ v, σ'[i]? = some (some v) ∧ Rep K H d (FA P0 O σ) v) : Sim K P0 O W ρ' σ' H where
  sub := S.sub
  len := hl
  dom := fun b z => S.dom b ((FA_of ho b).mp z)
  val := fun i d e n => by
    obtain ⟨v, h1, h2⟩ := hv i d e n
    exact ⟨v, h1, h2.less S.dom fun b z => (FA_of ho b).mp z⟩
  own := fun i d e n => by
    obtain ⟨v, h1, h2⟩ := S.own i d (hρ i n d e) n
    refine ⟨v, (ho i n).trans h1, ?_⟩
    have fa : ∀ b, FA P0 O σ' b → FA P0 O σ b := fun b z => (FA_of ho b).mp z
    cases d with
    | lst ds => obtain ⟨a, vs, rfl, ht, hr⟩ := h2; exact ⟨a, vs, rfl, ht, hr.less S.dom fa⟩
    | dik ks ds => obtain ⟨a, vs, rfl, hl, ht, hr⟩ := h2; exact ⟨a, vs, rfl, hl, ht, hr.less S.dom fa⟩
    | dit ks ds => obtain ⟨a, vs, rfl, hl, ht, hr⟩ := h2; exact ⟨a, vs, rfl, hl, ht, hr.less S.dom fa⟩
    | non => exact h2
    | bl _ => exact h2
    | int _ => exact h2
    | str _ => exact h2
    | tup _ => exact h2
    | arg _ => exact h2
    | ftu _ => exact h2
    | tab p q => exact h2
  sep := fun i j a hi hj e1 e2 => S.sep i j a hi hj ((ho i hi).symm.trans e1) ((ho j hj).symm.trans e2)
  sep0 := fun a z => S.sep0 a ((OA_of ho a).mp z)
theorem Sim.set (S : Sim K P0 O W ρ σ H) {i : Nat} (hi : i ∉ O) (r : Rep K H d (FA P0 O σ) v) : Sim K P0 O W (ρ.set i (some d)) (σ.set i (some v)) H := by
  refine S.move (by simpa using S.len) (fun j hj => ?_) (fun j hj d' e => ?_) fun j d' e n => ?_
  · exact List.getElem?_set_ne (fun (e : i = j) => hi (by rw [e]; exact hj))
  · rwa [List.getElem?_set_ne (fun (e : i = j) => hi (by rw [e]; exact hj))] at e
  · by_cases hj : i = j
    · subst hj
      have h1 : i < ρ.length := by
        have := (List.getElem?_eq_some_iff.mp e).1
        simpa using this
      rw [List.getElem?_set_self h1] at e
      cases e
      exact ⟨v, List.getElem?_set_self (Nat.lt_of_lt_of_le h1 S.len), r⟩
    · rw [List.getElem?_set_ne hj] at e ⊢
      exact S.val j d' e n
/-- forgetting -/
def wipeE (ρ : Env) : List Nat → Env
  | [] => ρ
  | i :: is => (wipeE ρ is).set i none
theorem wipeE_length (ρ : Env) : ∀ is, (wipeE ρ is).length = ρ.length
  | [] => rfl
  | i :: is => by unfold wipeE; rw [List.length_set, wipeE_length ρ is]
theorem wipeE_some : ∀ {is : List Nat} {j : Nat} {d : D}, (wipeE ρ is)[j]? = some (some d) → ρ[j]? = some (some d) ∧ j ∉ is
  | [], j, d, e => ⟨e, by simp⟩
  | i :: is, j, d, e => by
    unfold wipeE at e
    by_cases hj : i = j
    · subst hj
      by_cases hl : i < (wipeE ρ is).length
      · rw [List.getElem?_set_self hl] at e; cases e
      · rw [List.getElem?_eq_none (by simpa using hl)] at e; cases e
    · rw [List.getElem?_set_ne hj] at e
      obtain ⟨h1, h2⟩ := wipeE_some e
      exact ⟨h1, by simp only [List.mem_cons, not_or]; exact ⟨fun z => hj z.symm, h2⟩⟩
theorem Sim.wipe (S : Sim K P0 O W ρ σ H) (is : List Nat) : Sim K P0 O W (wipeE ρ is) σ H :=
  S.move (by rw [wipeE_length]; exact S.len) (fun _ _ => rfl) (fun i _ d e => (wipeE_some e).1) fun i d e n => S.val i d (wipeE_some e).1 n
theorem wipe_ne {is : List Nat} {j : Nat} (h : j ∉ is) : (L2.wipe σ is)[j]? = σ[j]? := wipe_out h
/-- a comprehension's own names -/
theorem Sim.wipe2 (S : Sim K P0 O W ρ σ H) {is : List Nat} (h : ∀ i ∈ is, i ∉ O) : Sim K P0 O W (wipeE ρ is) (L2.wipe σ is) H := by
  refine S.move (by rw [wipeE_length, L2.wipe_length]; exact S.len) (fun i hi => wipe_ne fun z => h i z hi) (fun i _ d e => (wipeE_some e).1) fun i d e n => ?_
  obtain ⟨e1, e2⟩ := wipeE_some e
  rw [wipe_ne e2]
  exact S.val i d e1 n
/-- back from the block: the wiped slots are not told -/
theorem Sim.out {is : List Nat} (S : Sim K P0 O W ρ (L2.wipe σ is) H) (h : ∀ i ∈ is, i ∉ O) (hρ : ∀ i ∈ is, ∀ d, ρ[i]? ≠ some (some d)) : Sim K P0 O W ρ σ H := by
  refine S.move (by have := S.len; rwa [L2.wipe_length] at this) (fun i hi => (wipe_ne fun z => h i z hi).symm) (fun i _ d e => e) fun i d e n => ?_
  obtain ⟨v, h1, h2⟩ := S.val i d e n
  rw [wipe_ne fun z => hρ i z d e] at h1
  exact ⟨v, h1, h2⟩
/-- one more object is forbidden -/
theorem Sim.more (S : Sim K P0 O W ρ σ H) {q : Addr} {vs : List V} (hq : H q = none) : Sim K (fun b => P0 b ∨ b = q) O W ρ σ (upd H q (.lst vs)) := by
  have S' := S.same (Same.new (o := .lst vs) hq)
  have fa : ∀ b, FA (fun b => P0 b ∨ b = q) O σ b → FA P0 O σ b ∨ H b = none := fun b z => by
    rcases z with (z | z) | z
    · exact .inl (.inl z)
    · rw [z]; exact .inr hq
    · exact .inl (.inr z)
  refine ⟨S.sub, S.len, fun b z => ?_, fun i d e n => ?_, fun i d e n => ?_, S.sep, fun a z => ?_⟩
  · rcases z with (z | z) | z
    · exact S'.dom b (.inl z)
    · rw [z, upd_same]; trivial
    · exact S'.dom b (.inr z)
  · obtain ⟨v, h1, h2⟩ := S.val i d e n
    exact ⟨v, h1, h2.mono d S.dom (fun b o e _ => Same.new hq b o e) fa⟩
  · obtain ⟨v, h1, h2⟩ := S.own i d e n
    refine ⟨v, h1, ?_⟩
    cases d with
    | lst ds => obtain ⟨a, vs, rfl, ht, hr⟩ := h2; exact ⟨a, vs, rfl, Same.new hq _ _ ht, hr.mono ds S.dom (fun b o e _ => Same.new hq b o e) fa⟩
    | dik ks ds => obtain ⟨a, vs, rfl, hl, ht, hr⟩ := h2; exact ⟨a, vs, rfl, hl, Same.new hq _ _ ht, hr.mono ds S.dom (fun b o e _ => Same.new hq b o e) fa⟩
    | dit ks ds => obtain ⟨a, vs, rfl, hl, ht, hr⟩ := h2; exact ⟨a, vs, rfl, hl, Same.new hq _ _ ht, hr.mono ds S.dom (fun b o e _ => Same.new hq b o e) fa⟩
    | non => exact h2
    | bl _ => exact h2
    | int _ => exact h2
    | str _ => exact h2
    | tup _ => exact h2
    | arg _ => exact h2
    | ftu _ => exact h2
    | tab p q => obtain ⟨a, rfl, ht⟩ := h2; exact ⟨a, rfl, ht.ext (Same.new hq)⟩
  · rintro (y | y)
    · exact S.sep0 a z y
    · subst y
      exact (S.dom a (.inr z)).some hq
theorem Sim.lessP (S : Sim K P1 O W ρ σ H) (h : ∀ b, P0 b → P1 b) : Sim K P0 O W ρ σ H := by
  have fa : ∀ b, FA P0 O σ b → FA P1 O σ b := fun b z => z.imp (h b) id
  refine ⟨S.sub, S.len, fun b z => S.dom b (fa b z), fun i d e n => ?_, fun i d e n => ?_, S.sep, fun a z y => S.sep0 a z (h a y)⟩
  · obtain ⟨v, h1, h2⟩ := S.val i d e n
    exact ⟨v, h1, h2.less S.dom fa⟩
  · obtain ⟨v, h1, h2⟩ := S.own i d e n
    refine ⟨v, h1, ?_⟩
    cases d with
    | lst ds => obtain ⟨a, vs, rfl, ht, hr⟩ := h2; exact ⟨a, vs, rfl, ht, hr.less S.dom fa⟩
    | dik ks ds => obtain ⟨a, vs, rfl, hl, ht, hr⟩ := h2; exact ⟨a, vs, rfl, hl, ht, hr.less S.dom fa⟩
    | dit ks ds => obtain ⟨a, vs, rfl, hl, ht, hr⟩ := h2; exact ⟨a, vs, rfl, hl, ht, hr.less S.dom fa⟩
    | non => exact h2
    | bl _ => exact h2
    | int _ => exact h2
    | str _ => exact h2
    | tup _ => exact h2
    | arg _ => exact h2
    | ftu _ => exact h2
    | tab p q => exact h2
/-- a forbidden object is written -/
theorem Sim.wr (S : Sim K P0 O W ρ σ H) {q : Addr} {o : HO} (hq : P0 q) (ho : isMut (some o)) : Sim K P0 O W ρ σ (upd H q o) := by
  have k : ∀ b u, H b = some u → ¬ FA P0 O σ b → upd H q o b = some u := fun b u e n => by rw [upd_ne fun (z : b = q) => n (.inl (by rw [z]; exact hq))]; exact e
  have ne : ∀ {i a}, i ∈ O → σ[i]? = some (some (V.ref a)) → a ≠ q := fun {i a} hi e z => S.sep0 a ⟨i, hi, e⟩ (by rw [z]; exact hq)
  refine ⟨S.sub, S.len, fun b z => ?_, fun i d e n => ?_, fun i d e n => ?_, S.sep, S.sep0⟩
  · by_cases hb : b = q
    · rw [hb, upd_same]; exact ho
    · rw [upd_ne hb]; exact S.dom b z
  · obtain ⟨v, h1, h2⟩ := S.val i d e n
    exact ⟨v, h1, h2.of_same S.dom k⟩
  · obtain ⟨v, h1, h2⟩ := S.own i d e n
    refine ⟨v, h1, ?_⟩
    cases d with
    | lst ds => obtain ⟨a, vs, rfl, ht, hr⟩ := h2; exact ⟨a, vs, rfl, by rw [upd_ne (ne n h1)]; exact ht, hr.mono ds S.dom k fun _ z => .inl z⟩
    | dik ks ds => obtain ⟨a, vs, rfl, hl, ht, hr⟩ := h2; exact ⟨a, vs, rfl, hl, by rw [upd_ne (ne n h1)]; exact ht, hr.mono ds S.dom k fun _ z => .inl z⟩
    | dit ks ds => obtain ⟨a, vs, rfl, hl, ht, hr⟩ := h2; exact ⟨a, vs, rfl, hl, by rw [upd_ne (ne n h1)]; exact ht, hr.mono ds S.dom k fun _ z => .inl z⟩
    | non => exact h2
    | bl _ => exact h2
    | int _ => exact h2
    | str _ => exact h2
    | tup _ => exact h2
    | arg _ => exact h2
    | ftu _ => exact h2
    | tab p q => obtain ⟨a, rfl, ht⟩ := h2; exact ⟨a, rfl, TabS.mono S.dom k (fun o e => by rw [upd_ne (ne n h1)]; exact e) ht⟩
end

def setAll (ρ : Env) : List Nat → List D → Env
  | i :: is, d :: ds => setAll (ρ.set i (some d)) is ds
  | _, _ => ρ
abbrev GM := D → Env → R Env
def tmName (i : Nat) : GM := fun d ρ => .ok (ρ.set i (some d))
def tmTup (is : List Nat) : GM := fun d ρ => match d with
  | .tup ds => if ds.length = is.length then .ok (setAll ρ is ds) else .stk
  | _ => .stk
def tG (K : PySem.W.Frag) (P0 : Pr) (O W : List Nat) (tm : GM) (is : List Nat) : TG := fun v σ H Q => ∃ ρ d ρ', Sim K P0 O W ρ σ H ∧ Rep K H d (FA P0 O σ) v ∧ tm d ρ = .ok ρ' ∧
  ∀ σ', Sim K P0 O W ρ' σ' H → σ'.length = σ.length → (∀ j, j ∉ is → σ'[j]? = σ[j]?) → Q σ' H
theorem PG.imp {X : Cx} {e : Expr} {t t' : TG} (h : PG X e t) (i : ∀ v σ H Q, t' v σ H Q → t v σ H Q) : PG X e t' := by
  cases h with
  | mk h => exact ⟨fun pins s σ H v u Q I r q => h pins s σ H v u Q I r (i v σ H Q q)⟩
section
variable {X : Cx} {P0 : Pr} {O W : List Nat} {pos : Pos}
abbrev CG (X : Cx) (P0 : Pr) (O W : List Nat) (tg : Expr) (tm : GM) (is : List Nat) : Prop := PG X tg (tG X.K P0 O W tm is)
theorem cg_name (i : Nat) {x : Str} (hN : X.N.Nodup) (ho : i ∉ O := by decide) (hi : X.N[i]? = some x := by rfl) (hx : Loc X.env.scope x := by first | exact Or.inl rfl | exact Or.inr rfl) (hf : X.fn x = true ∨ X.env.scope.names.lookup x = some .local := by first | exact .inl rfl | exact .inr rfl) : CG X P0 O W (.Name x pos) (tmName i) [i] :=
  PG.imp (pg_name hN hi hx hf) fun v σ H Q ⟨ρ, d, ρ', S, r, e, q⟩ => by
    cases e
    exact q _ (S.set ho r) (by simp) fun j hj => List.getElem?_set_ne fun z => hj (by simp [z])
def gNames : List Nat → TGs
  | [] => gNil
  | i :: is => gCons (gName i) (gNames is)
theorem names_ok {K : PySem.W.Frag} {H : Hp} {Q : St → Hp → Prop} : ∀ {is : List Nat} {ds : List D} {vs : List V} {ρ : Env} {σ : St}, (∀ i ∈ is, i ∉ O) → ds.length = is.length → Sim K P0 O W ρ σ H → Reps K H ds (FA P0 O σ) vs →
    (∀ σ', Sim K P0 O W (setAll ρ is ds) σ' H → σ'.length = σ.length → (∀ j, j ∉ is → σ'[j]? = σ[j]?) → Q σ' H) → gNames is vs σ H Q
  | [], [], vs, ρ, σ, _, _, S, r, q => ⟨r.nil_iff, q σ S rfl fun _ _ => rfl⟩
  | [], _ :: _, _, _, _, _, hl, _, _, _ => by simp at hl
  | _ :: _, [], _, _, _, _, hl, _, _, _ => by simp at hl
  | i :: is, d :: ds, vs, ρ, σ, ho, hl, S, r, q => by
    obtain ⟨v, ws, rfl, r1, r2⟩ := r.cons_iff
    have hi : i ∉ O := ho i (by simp)
    have S1 := S.set hi r1
    have fa : ∀ j ∈ O, (σ.set i (some v))[j]? = σ[j]? := fun j hj => List.getElem?_set_ne fun (z : i = j) => hi (by rw [z]; exact hj)
    refine ⟨v, ws, rfl, names_ok (fun j hj => ho j (by simp [hj])) (by simpa using hl) S1 (r2.less S.dom fun b z => (FA_of fa b).mp z) fun σ' S' h1 h2 => ?_⟩
    exact q σ' S' (by rw [h1]; simp) fun j hj => by
      rw [h2 j fun z => hj (by simp [z])]
      exact List.getElem?_set_ne fun z => hj (by simp [z])
theorem cg_tup {es : List Expr} {k : Nat} (is : List Nat) (hc : X.calm = true) (h : PGs X es (gNames is)) (ho : ∀ i ∈ is, i ∉ O := by decide) (hst : (assignEach es X.env).findIdx? (·.1) = none := by rfl) (hn : (assignEach es X.env).length = is.length := by rfl) : CG X P0 O W (.Tuple es k pos) (tmTup is) is :=
  PG.imp (pg_tup hc h hn hst) fun v σ H Q ⟨ρ, d, ρ', S, r, e, q⟩ => by
    unfold tmTup at e
    split at e
    · split at e
      · rename_i hl; cases e
        unfold Rep at r
        obtain ⟨a, vs, rfl, h1, h2⟩ := r
        exact ⟨a, vs, rfl, SqT.of h1, by rw [h2.length, hl], names_ok ho hl S h2 q⟩
      · cases e
    · cases e
theorem cgs_nil : PGs X [] (gNames []) := pgs_nil
theorem cgs_cons {es : List Expr} {is : List Nat} (i : Nat) {x : Str} {p : Pos} (hN : X.N.Nodup) (h2 : PGs X es (gNames is)) (hi : X.N[i]? = some x := by rfl) (hx : Loc X.env.scope x := by first | exact Or.inl rfl | exact Or.inr rfl) (hf : X.fn x = true ∨ X.env.scope.names.lookup x = some .local := by first | exact .inl rfl | exact .inr rfl) :
    PGs X (.Name x p :: es) (gNames (i :: is)) := pgs_cons (pg_name hN hi hx hf) h2
end

open Classical in
/-- the slots that are read from stay -/
noncomputable def chk (ws : List Nat) (ρ ρ' : Env) : R Unit := if ∀ w ∈ ws, ρ'[w]? = ρ[w]? then .ok () else .stk
@[simp] theorem chk_nil {ρ ρ' : Env} : chk [] ρ ρ' = .ok () := by unfold chk; rw [if_pos]; intro w hw; cases hw
theorem chk_ok {ws : List Nat} {ρ ρ' : Env} (h : chk ws ρ ρ' = .ok ()) : ∀ w ∈ ws, ρ'[w]? = ρ[w]? := by
  unfold chk at h
  split at h
  · assumption
  · cases h
noncomputable def cCompL (tm : GM) (t : BM) (e : EM) (vs ws : List Nat) : List D → Env → R (List D × Env)
  | [], ρ => .ok ([], ρ)
  | x :: xs, ρ => do
    let ρ1 ← tm x ρ
    let (k, ρ2) ← t ρ1
    if k = true then do
      let (h, ρ3) ← e ρ2
      let d ← h.v
      let _ ← chk ws ρ (wipeE ρ3 vs)
      let (ys, ρ5) ← cCompL tm t e vs ws xs (wipeE ρ3 vs)
      pure (d :: ys, ρ5)
    else do
      let _ ← chk ws ρ (wipeE ρ2 vs)
      cCompL tm t e vs ws xs (wipeE ρ2 vs)
noncomputable def cComp (im : IM) (tm : GM) (t : BM) (e : EM) (vs : List Nat) : EM := fun ρ => do
  let ((ds, ws), ρ1) ← im ρ
  let (ys, ρ2) ← (cCompL tm t e vs ws ds (wipeE ρ1 vs)).nox
  pure (.fr (.lst ys), ρ2)
def cYes : BM := fun ρ => .ok (true, ρ)
abbrev E00 : EK := fun _ _ _ => False
/-- one turn -/
inductive CStep (tm : GM) (t : BM) (e : EM) (vs ws : List Nat) (x : D) (xs : List D) (ρ : Env) (ys : List D) (ρf : Env) : Prop where
  | yes (ρ1 ρ2 ρ3 : Env) (h : Hd) (d : D) (ys' : List D) (e1 : tm x ρ = .ok ρ1) (e2 : t ρ1 = .ok (true, ρ2)) (e3 : e ρ2 = .ok (h, ρ3)) (e4 : h.v = .ok d) (e5 : chk ws ρ (wipeE ρ3 vs) = .ok ()) (e6 : cCompL tm t e vs ws xs (wipeE ρ3 vs) = .ok (ys', ρf)) (e7 : ys = d :: ys')
  | no (ρ1 ρ2 : Env) (e1 : tm x ρ = .ok ρ1) (e2 : t ρ1 = .ok (false, ρ2)) (e5 : chk ws ρ (wipeE ρ2 vs) = .ok ()) (e6 : cCompL tm t e vs ws xs (wipeE ρ2 vs) = .ok (ys, ρf))
theorem cComp_step {tm : GM} {t : BM} {e : EM} {vs ws : List Nat} {x : D} {xs : List D} {ρ : Env} {ys : List D} {ρf : Env} (h : cCompL tm t e vs ws (x :: xs) ρ = .ok (ys, ρf)) : CStep tm t e vs ws x xs ρ ys ρf := by
  unfold cCompL at h
  obtain ⟨ρ1, e1, h⟩ := R.ok_of h
  obtain ⟨⟨k, ρ2⟩, e2, h⟩ := R.ok_of h
  cases k with
  | true =>
    have h : (e ρ2 >>= _) = R.ok (ys, ρf) := h
    obtain ⟨⟨hd, ρ3⟩, e3, h⟩ := R.ok_of h
    obtain ⟨d, e4, h⟩ := R.ok_of h
    obtain ⟨_, e5, h⟩ := R.ok_of h
    obtain ⟨⟨ys', ρ5⟩, e6, h⟩ := R.ok_of h
    cases h
    exact .yes ρ1 ρ2 ρ3 hd d ys' e1 e2 e3 e4 e5 e6 rfl
  | false =>
    have h : (chk ws ρ (wipeE ρ2 vs) >>= _) = R.ok (ys, ρf) := h
    obtain ⟨_, e5, h⟩ := R.ok_of h
    exact .no ρ1 ρ2 e1 e2 e5 h
end Y

set_option Elab.async false
set_option linter.all false
set_option maxRecDepth 100000
namespace Y
open PySem PySem.Spec PyProof.Rows L2

theorem wipe_same {σ σ' : St} {vs : List Nat} (hl : σ'.length = σ.length) (h : ∀ j, j ∉ vs → σ'[j]? = σ[j]?) : L2.wipe σ' vs = L2.wipe σ vs := by
  apply List.ext_getElem?
  intro j
  by_cases hj : j ∈ vs
  · have q : ∀ (τ : St), (L2.wipe τ vs)[j]? = if j < τ.length then some none else none := fun τ => by
      have hlen := L2.wipe_length τ vs
      cases e : (L2.wipe τ vs)[j]? with
      | none =>
        rw [List.getElem?_eq_none_iff] at e
        rw [if_neg (by omega)]
      | some o =>
        have := (List.getElem?_eq_some_iff.mp e).1
        rw [if_pos (by omega)]
        cases o with
        | none => rfl
        | some v => exact absurd hj (wipe_some e).2
    rw [q, q, hl]
  · rw [wipe_ne hj, wipe_ne hj, h j hj]
theorem wipe_idem {σ : St} {vs : List Nat} : L2.wipe (L2.wipe σ vs) vs = L2.wipe σ vs := wipe_same (L2.wipe_length σ vs) fun j hj => wipe_ne hj
theorem wipeE_none {ρ : Env} {vs : List Nat} : ∀ i ∈ vs, ∀ d, (wipeE ρ vs)[i]? ≠ some (some d) := fun i hi d e => (wipeE_some e).2 hi
section
variable {X : Cx} {P0 : Pr} {O W : List Nat} {E : EK} {a b c e tg : Expr} {es : List Expr} {ma mb mc : EM} {ms : AM} {pos : Pos}
theorem PE.ex {e : Expr} {m : EM} (h : ∀ P0, CEx X P0 O W E e m) : PE X e (fun σ H Q => ∃ P0, tM X.K P0 O W E m σ H Q) := ⟨fun pins s σ H Q I ⟨P0, q⟩ => (h P0).run pins s σ H Q I q⟩
theorem PT.ex {e : Expr} {m : BM} (h : ∀ P0, CT X P0 O W E e m) : PT X e (fun σ H Q => ∃ P0, tMt X.K P0 O W E m σ H Q) := ⟨fun pins s σ H Q I ⟨P0, q⟩ => (h P0).run pins s σ H Q I q⟩
theorem PG.ex {e : Expr} {m : GM} {is : List Nat} (h : ∀ P0, CG X P0 O W e m is) : PG X e (fun v σ H Q => ∃ P0, tG X.K P0 O W m is v σ H Q) := by
  refine ⟨fun pins s σ H v u Q I r ⟨P0, q⟩ => ?_⟩
  cases h P0 with
  | mk h => exact h pins s σ H v u Q I r q
/-- the tests of a comprehension -/
abbrev CTs (X : Cx) (O W : List Nat) (E : EK) (ifs : List Expr) (m : BM) : Prop := PTs X ifs (fun σ H Q => ∃ P0, tMt X.K P0 O W E m σ H Q)
theorem cts_nil : CTs X O W E [] cYes := by
  cases (pts_nil (X := X)) with
  | mk h => exact ⟨fun pins s σ H Q I ⟨P0, ρ, S, q⟩ => h pins s σ H Q I (q H S .refl)⟩
theorem cts_one {m : BM} (h : ∀ P0, CT X P0 O W E c m) : CTs X O W E [c] m := pts_one (PT.ex h)
theorem comp_core {K : PySem.W.Frag} {im : IM} {tm : GM} {t : BM} {me : EM} {is vs : List Nat} (hv : ∀ i ∈ is, i ∈ vs) (ho : ∀ i ∈ vs, i ∉ O) (σ : St) (H : Hp) (Q : VK) (h : tM K P0 O W E (cComp im tm t me vs) σ H Q) :
    tLc (tMi K P0 O W E im) (fun v σ H Q => ∃ P0, tG K P0 O W tm is v σ H Q) (fun σ H Q => ∃ P0, tMt K P0 O W E00 t σ H Q) (fun σ H Q => ∃ P0, tM K P0 O W E00 me σ H Q) vs σ H Q := by
  obtain ⟨ρ, S, h⟩ := h
  refine ⟨ρ, S, h.of_bind.mono fun ⟨⟨ds, ws⟩, ρ1⟩ q J H1 Ok S1 k1 src ok hz Dn hD => ?_⟩
  obtain ⟨⟨ys, ρf⟩, er, q⟩ := q.of_nox
  have src : Src K O W ds ws J Ok := src
  have hz : ds.length ≤ sizeLine := hz
  generalize hP : (fun b => P0 b ∨ b = Dn : Pr) = P1
  have pD : P1 Dn := by subst hP; exact .inr rfl
  have pI : ∀ b, P0 b → P1 b := by subst hP; exact fun b z => .inl z
  have pO : ∀ b, P1 b → P0 b ∨ b = Dn := by subst hP; exact fun b z => z
  have S2 : Sim K P1 O W ρ1 σ (upd H1 Dn (.lst [])) := by subst hP; exact S1.more hD
  have ok2 : Ok P1 ρ1 σ (upd H1 Dn (.lst [])) := src.grow P0 _ ρ1 σ H1 _ S1 (fun b z => (pO b z).elim .inl fun z => .inr (by rw [z]; exact hD)) (Same.new hD) ok
  have wO : ∀ w ∈ ws, w ∉ vs := fun w hw z => ho w z (src.mem _ _ _ _ ok w hw)
  have sO : ∀ i ∈ O, (L2.wipe σ vs)[i]? = σ[i]? := fun i hi => wipe_ne fun y => ho i y hi
  have S3 : Sim K P1 O W (wipeE ρ1 vs) (L2.wipe σ vs) (upd H1 Dn (.lst [])) := S2.wipe2 ho
  have nD : ¬ OA O (L2.wipe σ vs) Dn := fun z => (S1.dom Dn (.inr ((OA_of sO Dn).mp z))).some hD
  have ok3 : Ok P1 (wipeE ρ1 vs) (L2.wipe σ vs) (upd H1 Dn (.lst [])) := src.keep P1 ρ1 σ _ _ _ _ S2 (fun _ _ e _ => e) (fun b z => .inl ((FA_of sO b).mp z)) (fun w hw => ⟨wipe_ne (wO w hw), by
    cases e : (wipeE ρ1 vs)[w]? with
    | none =>
      have : ρ1.length ≤ w := by rw [← wipeE_length ρ1 vs]; exact List.getElem?_eq_none_iff.mp e
      rw [List.getElem?_eq_none this]
    | some o =>
      have q2 : ∀ (is : List Nat), w ∉ is → (wipeE ρ1 is)[w]? = ρ1[w]? := fun is => by
        induction is with
        | nil => intro _; rfl
        | cons i is ih =>
          intro hn
          simp only [List.mem_cons, not_or] at hn
          unfold wipeE
          rw [List.getElem?_set_ne fun z => hn.1 z.symm]
          exact ih hn.2
      rw [← e, q2 vs (wO w hw)]⟩) ok2
  -- the invariant
  let I : Nat → Hp → Prop := fun i Hx => i ≤ ds.length ∧ ∃ (ρx : Env) (acc : List V) (yd rest : List D), Sim K P1 O W ρx (L2.wipe σ vs) Hx ∧ Ok P1 ρx (L2.wipe σ vs) Hx ∧ Hx Dn = some (.lst acc) ∧ Reps K Hx yd (FA P1 O (L2.wipe σ vs)) acc ∧ acc.length ≤ i ∧
    cCompL tm t me vs ws (ds.drop i) ρx = .ok (rest, ρf) ∧ ys = yd ++ rest ∧ (∀ b o, H1 b = some o → ¬ OA W σ b → Hx b = some o) ∧ (∀ b, H1 b ≠ none → Hx b ≠ none) ∧ (∀ j ∈ vs, ∀ d, ρx[j]? ≠ some (some d))
  refine ⟨fun i m Hx => m = ds.length - i ∧ I i Hx, ⟨ds.length, by simp, Nat.zero_le _, wipeE ρ1 vs, [], [], ys, S3, ok3, upd_same, Reps.nil, Nat.le_refl _, er, rfl, fun b o e _ => Same.new hD b o e, fun b e => Same.some (Same.new hD) b e, wipeE_none⟩, ?_⟩
  rintro i m Hx ⟨rfl, hi, ρx, acc, yd, rest, Sx, okx, hDx, hR, hacc, hC, hys, kx, sx, nx⟩
  by_cases hlt : i < ds.length
  · right
    refine ⟨src.go P1 i ρx _ Hx Sx okx hlt, I (i + 1), fun H' p' => ⟨ds.length - (i + 1), by omega, rfl, p'⟩, fun x' H' y => ?_⟩
    obtain ⟨sm, rx⟩ := src.yld P1 i ρx _ Hx x' H' ds[i] Sx okx (List.getElem?_eq_getElem hlt) y
    rw [List.drop_eq_getElem_cons hlt] at hC
    have back : ∀ {σ2 : St}, σ2.length = (L2.wipe σ vs).length → (∀ j, j ∉ is → σ2[j]? = (L2.wipe σ vs)[j]?) → L2.wipe σ2 vs = L2.wipe σ vs ∧ ∀ j ∈ O, σ2[j]? = (L2.wipe σ vs)[j]? := fun {σ2} h1 h2 =>
      ⟨(wipe_same h1 fun j hj => h2 j fun z => hj (hv j z)).trans wipe_idem, fun j hj => h2 j fun z => ho j (hv j z) hj⟩
    -- from the turn's end to the next turn
    have next : ∀ {σ2 : St} {ρ3 : Env} {H4 : Hp} {acc' : List V} {yd' rest' : List D}, σ2.length = (L2.wipe σ vs).length → (∀ j, j ∉ is → σ2[j]? = (L2.wipe σ vs)[j]?) → Sim K P1 O W ρ3 σ2 H4 → Keep W σ2 H' H4 →
        (∀ w ∈ ws, (wipeE ρ3 vs)[w]? = ρx[w]?) → Reps K H4 yd' (FA P1 O σ2) acc' → acc'.length ≤ i + 1 → cCompL tm t me vs ws (ds.drop (i + 1)) (wipeE ρ3 vs) = .ok (rest', ρf) → ys = yd' ++ rest' → I (i + 1) (upd H4 Dn (.lst acc')) := by
      intro σ2 ρ3 H4 acc' yd' rest' h1 h2 S4 k4 hw r' hl' hc' hy'
      obtain ⟨b1, b2⟩ := back h1 h2
      have nD2 : ¬ OA O σ2 Dn := fun z => nD ((OA_of b2 Dn).mp z)
      have S5 := S4.wipe2 (is := vs) ho
      rw [b1] at S5
      have S6 := S5.wr (o := .lst acc') pD trivial
      have kp : ∀ b o, Hx b = some o → ¬ FA P1 O (L2.wipe σ vs) b → upd H4 Dn (.lst acc') b = some o := fun b o e n => by
        rw [upd_ne fun z => n (.inl (by rw [z]; exact pD))]
        exact k4.keep b o (sm b o e) fun z => n (.inr ((OA_of b2 b).mp (S4.oaw z)))
      refine ⟨hlt, wipeE ρ3 vs, acc', yd', rest', S6, src.keep P1 ρx _ Hx _ _ _ Sx kp (fun b z => .inl z) (fun w hw' => ⟨rfl, hw w hw'⟩) okx, upd_same, ?_, hl', hc', hy', fun b o e n => ?_, fun b e => ?_, wipeE_none⟩
      · refine r'.mono yd' S4.dom (fun b o e n => ?_) fun b z => .inl ((FA_of b2 b).mpr z)
        rw [upd_ne fun z => n (.inl (by rw [z]; exact pD))]
        exact e
      · have hb : b ≠ Dn := ne_of_none e hD
        rw [upd_ne hb]
        exact k4.keep b o (sm b o (kx b o e n)) fun z => n ((OA_of (fun i hi => sO i (S1.sub i hi)) b).mp ((OA_of (fun i hi => b2 i (S1.sub i hi)) b).mp z))
      · by_cases hb : b = Dn
        · rw [hb, upd_same]; intro z; cases z
        · rw [upd_ne hb]
          exact k4.some b (Same.some sm b (sx b e))
    cases cComp_step hC with
    | yes ρa ρb ρc hd d ys' e1 e2 e3 e4 e5 e6 e7 =>
      refine ⟨P1, ρx, ds[i], ρa, Sx.same sm, rx, e1, fun σ2 Sa h1 h2 => ⟨(back h1 h2).1, P1, ρa, Sa, ?_⟩⟩
      rw [e2]
      intro H3 Sb k3
      refine (if_pos rfl).mpr ⟨P1, ρb, Sb, ?_⟩
      rw [e3]
      intro y' H4 Sc k4 r4
      have b2 := (back h1 h2).2
      have nD2 : ¬ OA O σ2 Dn := fun z => nD ((OA_of b2 Dn).mp z)
      have k34 : Keep W σ2 H' H4 := k3.trans k4
      refine ⟨acc, k34.keep _ _ (sm _ _ hDx) fun z => nD2 (Sc.oaw z), by omega, ?_⟩
      have r5 : Reps K H4 yd (FA P1 O σ2) acc := hR.mono yd Sx.dom (fun b o e n => k34.keep b o (sm b o e) fun z => n (.inr ((OA_of b2 b).mp (Sc.oaw z)))) fun b z => .inl ((FA_of b2 b).mp z)
      exact next h1 h2 Sc k34 (chk_ok e5) (r5.append (Reps.cons (r4.v e4) Reps.nil)) (by simp; omega) e6 (by rw [hys, e7]; simp)
    | no ρa ρb e1 e2 e5 e6 =>
      refine ⟨P1, ρx, ds[i], ρa, Sx.same sm, rx, e1, fun σ2 Sa h1 h2 => ⟨(back h1 h2).1, P1, ρa, Sa, ?_⟩⟩
      rw [e2]
      intro H3 Sb k3
      refine (if_neg Bool.false_ne_true).mpr ?_
      have b2 := (back h1 h2).2
      have nD2 : ¬ OA O σ2 Dn := fun z => nD ((OA_of b2 Dn).mp z)
      have r5 : Reps K H3 yd (FA P1 O σ2) acc := hR.mono yd Sx.dom (fun b o e n => k3.keep b o (sm b o e) fun z => n (.inr ((OA_of b2 b).mp (Sb.oaw z)))) fun b z => .inl ((FA_of b2 b).mp z)
      have hD3 : H3 Dn = some (.lst acc) := k3.keep _ _ (sm _ _ hDx) fun z => nD2 (Sb.oaw z)
      have fin := next h1 h2 Sb k3 (chk_ok e5) r5 (by omega) e6 hys
      have e : upd H3 Dn (.lst acc) = H3 := by
        funext b
        unfold upd
        split
        · rename_i z; rw [z, hD3]
        · rfl
      rw [e] at fin
      exact fin
  · left
    have ei : i = ds.length := by omega
    subst ei
    refine ⟨src.stop P1 ρx _ Hx Sx okx, ?_⟩
    rw [List.drop_length] at hC
    have hC : (R.ok (([] : List D), ρx)) = R.ok (rest, ρf) := hC
    cases hC
    rw [List.append_nil] at hys
    subst hys
    have kH : Keep W σ H1 Hx := ⟨kx, sx⟩
    refine q (.ref Dn) Hx ((Sx.lessP pI).out ho nx) (k1.trans kH) ⟨?_, fun _ a e => ?_⟩
    · unfold Rep
      refine ⟨Dn, acc, rfl, fun z => (S1.dom Dn z).some hD, hDx, hR.less Sx.dom fun b z => ?_⟩
      rcases z with z | z
      · exact (FA_of sO b).mpr (z.imp (pI b) id)
      · rw [z]; exact .inl pD
    · cases e
      exact Classical.byContradiction fun z => k1.some Dn z hD
theorem ce_comp {elt iter : Expr} {ifs : List Expr} {scope : Scope} {own : List (Str × Nat)} {im : IM} {tm : GM} {t : BM} {me : EM} {is : List Nat} (hc : X.calm = true) (hN : X.N.Nodup) (hi : CI X P0 O W E tg iter im) (ok : BlkOk X.N X.env.scope scope own)
    (hg : ∀ (P0 : Pr) (s : Shared) (H : Hp) (C : Addr) (cl : List (Str × Addr)) (fp : List Addr), CG (X.blk s H scope (compEnvC scope cl C X.env) fp) P0 O W tg tm is)
    (ht : ∀ (s : Shared) (H : Hp) (C : Addr) (cl : List (Str × Addr)) (fp : List Addr), CTs (X.blk s H scope (compEnvC scope cl C X.env) fp) O W E00 ifs t)
    (he : ∀ (P0 : Pr) (s : Shared) (H : Hp) (C : Addr) (cl : List (Str × Addr)) (fp : List Addr), CEx (X.blk s H scope (compEnvC scope cl C X.env) fp) P0 O W E00 elt me)
    (hv : ∀ i ∈ is, i ∈ own.map (·.2) := by decide) (ho : ∀ i ∈ own.map (·.2), i ∉ O := by decide) (hs : ∀ x, foldedSetIterable iter X.env x = pure x := by intro _; rfl) :
    CEx X P0 O W E (.ListComp elt [⟨tg, iter, ifs, 0⟩] scope pos) (cComp im tm t me (own.map (·.2))) :=
  PE.imp (pe_lc hc hN hi ok (fun s H C cl fp => PG.ex fun P0 => hg P0 s H C cl fp) ht (fun s H C cl fp => PE.ex fun P0 => he P0 s H C cl fp) hs) (comp_core hv ho)
end
end Y

set_option Elab.async false
set_option linter.all false
set_option maxRecDepth 100000
namespace Y
open PySem PySem.Spec PyProof.Rows L2

mutual
def D.nl : D → Bool
  | .non => true
  | .bl _ => true
  | .int _ => true
  | .str _ => true
  | .tup ds => nls ds
  | .ftu ds => nls ds
  | _ => false
def nls : List D → Bool
  | [] => true
  | d :: ds => d.nl && nls ds
end
/-- a list, a dict of such -/
def D.shallow : D → Bool
  | .lst ds => nls ds
  | .dik _ ds => nls ds
  | .dit _ ds => nls ds
  | .tab _ _ => true
  | d => d.nl
section
variable {K : PySem.W.Frag} {H : Hp}
mutual
theorem Rep.nl : ∀ {d : D} {P P' : Pr} {v : V}, d.nl = true → Rep K H d P v → Rep K H d P' v
  | .non, _, _, _, _, h => by unfold Rep at h ⊢; exact h
  | .bl _, _, _, _, _, h => by unfold Rep at h ⊢; exact h
  | .int _, _, _, _, _, h => by unfold Rep at h ⊢; exact h
  | .str _, _, _, _, _, h => by unfold Rep at h ⊢; exact h
  | .tup ds, P, P', v, n, h => by
    unfold Rep at h ⊢
    obtain ⟨a, vs, e, h1, h2⟩ := h
    exact ⟨a, vs, e, h1, Reps.nl (by unfold D.nl at n; exact n) h2⟩
  | .ftu ds, P, P', v, n, h => by
    unfold Rep at h ⊢
    obtain ⟨a, vs, o, e, h1, hd, h2⟩ := h
    exact ⟨a, vs, o, e, h1, hd, Reps.nl (by unfold D.nl at n; exact n) h2⟩
  | .tab _ _, _, _, _, n, _ => by simp [D.nl] at n
  | .lst _, _, _, _, n, _ => by simp [D.nl] at n
  | .arg _, _, _, _, n, _ => by simp [D.nl] at n
  | .dik _ _, _, _, _, n, _ => by simp [D.nl] at n
  | .dit _ _, _, _, _, n, _ => by simp [D.nl] at n
theorem Reps.nl : ∀ {ds : List D} {P P' : Pr} {vs : List V}, nls ds = true → Reps K H ds P vs → Reps K H ds P' vs
  | [], _, _, _, _, h => by rw [h.nil_iff]; exact Reps.nil
  | d :: ds, P, P', vs, n, h => by
    obtain ⟨v, ws, rfl, h1, h2⟩ := h.cons_iff
    unfold nls at n
    rw [Bool.and_eq_true] at n
    exact Reps.cons (Rep.nl n.1 h1) (Reps.nl n.2 h2)
end
theorem RepO.shallow {d : D} {P P' : Pr} {v : V} (n : d.shallow = true) (h : RepO K H d P v) : RepO K H d P' v := by
  cases d with
  | lst ds => obtain ⟨a, vs, e, h1, h2⟩ := h; exact ⟨a, vs, e, h1, h2.nl n⟩
  | dik ks ds => obtain ⟨a, vs, e, hl, h1, h2⟩ := h; exact ⟨a, vs, e, hl, h1, h2.nl n⟩
  | dit ks ds => obtain ⟨a, vs, e, hl, h1, h2⟩ := h; exact ⟨a, vs, e, hl, h1, h2.nl n⟩
  | non => exact h
  | bl _ => exact h
  | int _ => exact h
  | str _ => exact h
  | tup _ => exact h
  | arg _ => exact h
  | ftu _ => exact h
  | tab _ _ => exact h
theorem RepO.mono {H' : Hp} {d : D} {P P' : Pr} {v : V} (hm : ∀ b, P b → isMut (H b)) (k : ∀ b o, H b = some o → ¬ P b → H' b = some o) (hp : ∀ b, P' b → P b ∨ H b = none) (hk : ∀ a o, v = .ref a → H a = some o → H' a = some o) (h : RepO K H d P v) : RepO K H' d P' v := by
  cases d with
  | lst ds => obtain ⟨a, vs, e, h1, h2⟩ := h; exact ⟨a, vs, e, hk a _ e h1, h2.mono ds hm k hp⟩
  | dik ks ds => obtain ⟨a, vs, e, hl, h1, h2⟩ := h; exact ⟨a, vs, e, hl, hk a _ e h1, h2.mono ds hm k hp⟩
  | dit ks ds => obtain ⟨a, vs, e, hl, h1, h2⟩ := h; exact ⟨a, vs, e, hl, hk a _ e h1, h2.mono ds hm k hp⟩
  | non => exact h
  | bl _ => exact h
  | int _ => exact h
  | str _ => exact h
  | tup _ => exact h
  | arg _ => exact h
  | ftu _ => exact h
  | tab p q => obtain ⟨a, e, ht⟩ := h; exact ⟨a, e, TabS.mono hm k (fun o e2 => hk a o e e2) ht⟩
end
open Classical in
/-- what is known of the slots is what was known; or, of own slots, it holds no lists -/
noncomputable def chkO (O W : List Nat) (ρ ρ' : Env) : R Unit := if ∀ (j : Nat) d, ρ'[j]? = some (some d) → (ρ[j]? = some (some d) ∧ j ∉ W) ∨ (j ∈ O ∧ d.shallow = true) ∨ d.nl = true then .ok () else .stk
theorem chkO_ok {O W : List Nat} {ρ ρ' : Env} (h : chkO O W ρ ρ' = .ok ()) : ∀ (j : Nat) d, ρ'[j]? = some (some d) → (ρ[j]? = some (some d) ∧ j ∉ W) ∨ (j ∈ O ∧ d.shallow = true) ∨ d.nl = true := by
  unfold chkO at h
  split at h
  · assumption
  · cases h
@[simp] theorem chkO_same {O : List Nat} {ρ : Env} : chkO O [] ρ ρ = .ok () := by unfold chkO; rw [if_pos fun j d e => .inl ⟨e, by simp⟩]
/-- what an own slot may take -/
def D.ownable : D → Bool
  | .lst _ => true
  | .non => true
  | .bl _ => true
  | .int _ => true
  | .str _ => true
  | _ => false
section
variable {K : PySem.W.Frag} {P0 P1 : Pr} {O W : List Nat} {ρ ρ' : Env} {σ σ' : St} {H H' : Hp} {d : D} {v : V}
/-- an own slot's object is written -/
theorem Sim.ownW (S : Sim K P0 O W ρ σ H) {i : Nat} {a : Addr} {o : HO} (hi : i ∈ O) (ha : σ[i]? = some (some (.ref a))) (ho : isMut (some o)) (r : RepO K (upd H a o) d (FA P0 O σ) (.ref a)) : Sim K P0 O W (ρ.set i (some d)) σ (upd H a o) := by
  have pa : FA P0 O σ a := .inr ⟨i, hi, ha⟩
  have k : ∀ b u, H b = some u → ¬ FA P0 O σ b → upd H a o b = some u := fun b u e n => by rw [upd_ne fun z => n (by rw [z]; exact pa)]; exact e
  refine ⟨S.sub, by simpa using S.len, fun b z => ?_, fun j d' e n => ?_, fun j d' e n => ?_, S.sep, S.sep0⟩
  · by_cases hb : b = a
    · rw [hb, upd_same]; exact ho
    · rw [upd_ne hb]; exact S.dom b z
  · have hj : i ≠ j := fun (z : i = j) => n (by rw [← z]; exact hi)
    rw [List.getElem?_set_ne hj] at e
    obtain ⟨v, h1, h2⟩ := S.val j d' e n
    exact ⟨v, h1, h2.of_same S.dom k⟩
  · by_cases hj : i = j
    · subst hj
      have h1 : i < ρ.length := by have := (List.getElem?_eq_some_iff.mp e).1; simpa using this
      rw [List.getElem?_set_self h1] at e
      cases e
      exact ⟨_, ha, r⟩
    · rw [List.getElem?_set_ne hj] at e
      obtain ⟨v, h1, h2⟩ := S.own j d' e n
      refine ⟨v, h1, h2.mono S.dom k (fun _ z => .inl z) fun b u e1 e2 => ?_⟩
      subst e1
      rw [upd_ne fun (z : b = a) => hj (S.sep i j a hi n ha (by rw [← z]; exact h1))]
      exact e2
/-- a datum of an own slot, of a new object -/
theorem Rep.own (hm : ∀ b, FA P0 O σ b → isMut (H b)) (hd : d.ownable = true) (r : Rep K H d (FA P0 O σ) v) {P' : Pr} (hp : ∀ b, P' b → FA P0 O σ b ∨ v = .ref b) : RepO K H d P' v := by
  cases d with
  | lst ds =>
    unfold Rep at r
    obtain ⟨a, vs, rfl, h0, h1, h2⟩ := r
    exact ⟨a, vs, rfl, h1, h2.less (mutL hm h1) fun b z => (hp b z).imp id fun z => by cases z; rfl⟩
  | dik _ _ => cases hd
  | dit _ _ => cases hd
  | non => unfold Rep at r; exact r
  | bl _ => unfold Rep at r; exact r
  | int _ => unfold Rep at r; exact r
  | str _ => unfold Rep at r; exact r
  | tup _ => cases hd
  | arg _ => cases hd
  | ftu _ => cases hd
  | tab _ _ => cases hd
/-- an own slot gets a new object v. S0: the state ahead of its making -/
theorem Sim.setO (S0 : Sim K P0 O W ρ σ H) (S : Sim K P0 O W ρ' σ H') (k : Keep W σ H H') (c : ∀ (j : Nat) d, ρ'[j]? = some (some d) → (ρ[j]? = some (some d) ∧ j ∉ W) ∨ (j ∈ O ∧ d.shallow = true) ∨ d.nl = true) {i : Nat} (hi : i ∈ O)
    (new : ∀ a, v = .ref a → H a = none ∧ isMut (H' a)) (r : RepO K H' d (fun b => FA P0 O σ b ∨ v = .ref b) v) : Sim K P0 O W (ρ'.set i (some d)) (σ.set i (some v)) H' := by
  have gs : ∀ {j : Nat} {w : V}, (σ.set i (some v))[j]? = some (some w) → (j = i ∧ w = v) ∨ (j ≠ i ∧ σ[j]? = some (some w)) := fun {j w} e => by
    by_cases hj : i = j
    · subst hj
      have h1 : i < σ.length := by have := (List.getElem?_eq_some_iff.mp e).1; simpa using this
      rw [List.getElem?_set_self h1] at e
      cases e
      exact .inl ⟨rfl, rfl⟩
    · rw [List.getElem?_set_ne hj] at e
      exact .inr ⟨fun z => hj z.symm, e⟩
  have oa : ∀ b, OA O (σ.set i (some v)) b → v = .ref b ∨ OA O σ b := fun b ⟨j, hj, e⟩ => by
    rcases gs e with ⟨_, e2⟩ | ⟨_, e2⟩
    · exact .inl e2.symm
    · exact .inr ⟨j, hj, e2⟩
  have fa0 : ∀ b, FA P0 O (σ.set i (some v)) b → FA P0 O σ b ∨ H b = none := fun b z => by
    rcases z with z | z
    · exact .inl (.inl z)
    · rcases oa b z with z | z
      · exact .inr (new b z).1
      · exact .inl (.inr z)
  have kf : ∀ b o, H b = some o → ¬ FA P0 O σ b → H' b = some o := fun b o e n => k.keep b o e fun z => n (.inr (S.oaw z))
  -- the new object is not what an own slot held
  have apart : ∀ a, v = .ref a → ¬ FA P0 O σ a := fun a e z => (S0.dom a z).some (new a e).1
  refine ⟨S.sub, by simpa using S.len, fun b z => ?_, fun j d' e n => ?_, fun j d' e n => ?_, fun x y a hx hy e1 e2 => ?_, fun a z y => ?_⟩
  · rcases z with z | z
    · exact S.dom b (.inl z)
    · rcases oa b z with z | z
      · exact (new b z).2
      · exact S.dom b (.inr z)
  · have hj : i ≠ j := fun (z : i = j) => n (by rw [← z]; exact hi)
    rw [List.getElem?_set_ne hj] at e ⊢
    rcases c j d' e with ⟨e0, _⟩ | ⟨z, _⟩ | nl
    · obtain ⟨w, h1, h2⟩ := S0.val j d' e0 n
      exact ⟨w, h1, h2.mono d' S0.dom kf fa0⟩
    · exact absurd z n
    · obtain ⟨w, h1, h2⟩ := S.val j d' e n
      exact ⟨w, h1, h2.nl nl⟩
  · by_cases hj : i = j
    · subst hj
      have h1 : i < ρ'.length := by have := (List.getElem?_eq_some_iff.mp e).1; simpa using this
      rw [List.getElem?_set_self h1] at e
      cases e
      refine ⟨v, List.getElem?_set_self (Nat.lt_of_lt_of_le h1 S.len), ?_⟩
      have r' := r
      refine r'.mono (P := fun b => FA P0 O σ b ∨ v = .ref b) (fun b z => z.elim (S.dom b) fun z => (new b z).2) (fun _ _ e _ => e) (fun b z => ?_) fun _ _ _ e => e
      rcases z with z | z
      · exact .inl (.inl (.inl z))
      · exact .inl ((oa b z).elim .inr fun z => .inl (.inr z))
    · rw [List.getElem?_set_ne hj] at e ⊢
      rcases c j d' e with ⟨e0, hw⟩ | ⟨_, sh⟩ | nl
      · obtain ⟨w, h1, h2⟩ := S0.own j d' e0 n
        refine ⟨w, h1, h2.mono S0.dom kf fa0 fun a o e1 e2 => ?_⟩
        subst e1
        refine k.keep a o e2 fun ⟨x, hx, ex⟩ => ?_
        have := S0.sep x j a (S0.sub x hx) n ex h1
        exact hw (this ▸ hx)
      · obtain ⟨w, h1, h2⟩ := S.own j d' e n
        exact ⟨w, h1, h2.shallow sh⟩
      · obtain ⟨w, h1, h2⟩ := S.own j d' e n
        refine ⟨w, h1, ?_⟩
        cases d' <;> first | exact h2 | (simp [D.nl] at nl)
  · rcases gs e1 with ⟨f1, g1⟩ | ⟨f1, g1⟩
    · rcases gs e2 with ⟨f2, g2⟩ | ⟨f2, g2⟩
      · rw [f1, f2]
      · exact absurd (.inr ⟨y, hy, g2⟩) (apart a g1.symm)
    · rcases gs e2 with ⟨f2, g2⟩ | ⟨f2, g2⟩
      · exact absurd (.inr ⟨x, hx, g1⟩) (apart a g2.symm)
      · exact S.sep x y a hx hy g1 g2
  · rcases oa a z with z | z
    · exact apart a z (.inl y)
    · exact S.sep0 a z y
end

inductive Fl where
  | nx | bk | ct | rt (h : Hd)
abbrev SM := Env → R (Fl × Env)
def Fin (K : PySem.W.Frag) (P0 : Pr) (O : List Nat) (Hs : Hp) (D : Ends) (σ : St) (H : Hp) : Fl → Prop
  | .nx => D.nx σ H
  | .bk => D.bk σ H
  | .ct => D.ct σ H
  | .rt h => ∀ v, HdR K P0 O Hs σ H h v → D.rt v H
def tSt (K : PySem.W.Frag) (P0 : Pr) (O W U : List Nat) (E : EK) (m : SM) : TS := fun D σ H => ∃ ρ, Sim K P0 O W ρ σ H ∧
  Res E O σ H (m ρ) fun a => ∀ σ' H', Sim K P0 O W a.2 σ' H' → Tr O U σ H σ' H' → σ'.length = σ.length → Fin K P0 O H D σ' H' a.1
section
variable {E : EK} {O W U : List Nat} {σ σ1 : St} {H H1 : Hp} {α β : Type}
theorem Keep.up (hs : ∀ i ∈ W, i ∈ O) (k : Keep W σ H H1) : Keep O σ H H1 := ⟨fun b o e n => k.keep b o e fun ⟨i, hi, z⟩ => n ⟨i, hs i hi, z⟩, k.some⟩
theorem Res.down (hs : ∀ i ∈ W, i ∈ O) {r : R α} {k : α → Prop} (h : Res E O σ H r k) : Res E W σ H r k := by
  cases r with
  | ok a => exact h
  | er c ds => exact fun H' kp => h H' (kp.up hs)
  | stk => exact h
theorem Keep.afterT {H2 : Hp} (t : Tr O U σ H σ1 H1) (k : Keep O σ1 H1 H2) : Keep O σ H H2 where
  keep := fun b o e n => k.keep b o (t.keep b o e n) fun z => by
    rcases t.own b z with z | z
    · exact n z
    · rw [e] at z; cases z
  some := fun b e => k.some b (t.some b e)
theorem Res.keepT {r : R α} {k : α → Prop} (h : Res E O σ H r k) (t : Tr O U σ H σ1 H1) : Res E O σ1 H1 r k := by
  cases r with
  | ok a => exact h
  | er c ds => exact fun H' kp => h H' (kp.afterT t)
  | stk => exact h
end
section
variable {X : Cx} {P0 : Pr} {O W U : List Nat} {E : EK} {a b c e tg : Expr} {es : List Expr} {ma mb mc : EM} {ms : AM} {pos : Pos} {st : Stmt} {sts : List Stmt} {m n : SM}
abbrev CS (X : Cx) (P0 : Pr) (O W U : List Nat) (E : EK) (st : Stmt) (m : SM) : Prop := PS X st (tSt X.K P0 O W U E m)
abbrev CSs (X : Cx) (P0 : Pr) (O W U : List Nat) (E : EK) (sts : List Stmt) (m : SM) : Prop := PSs X sts (tSt X.K P0 O W U E m)
def sSkip : SM := fun ρ => .ok (.nx, ρ)
def sSeq (m n : SM) : SM := fun ρ => do
  let (f, ρ1) ← m ρ
  match f with
  | .nx => n ρ1
  | f => pure (f, ρ1)
theorem cs_nil : CSs X P0 O W U E [] sSkip := PSs.imp pss_nil fun D σ H ⟨ρ, S, h⟩ => h σ H S .refl rfl
theorem cs_one (h : CS X P0 O W U E st m) : CSs X P0 O W U E [st] m := pss_one h
theorem cs_cons (h : CS X P0 O W U E st m) (h2 : CSs X P0 O W U E sts n) : CSs X P0 O W U E (st :: sts) (sSeq m n) := PSs.imp (pss_cons h h2) fun D σ H ⟨ρ, S, h⟩ =>
  ⟨ρ, S, h.of_bind.mono fun ⟨f, ρ1⟩ q σ1 H1 S1 t1 l1 => by
    cases f with
    | nx =>
      refine ⟨ρ1, S1, (Res.keepT (show Res E O σ H (n ρ1) _ from q) t1).mono fun ⟨f2, ρ2⟩ q2 σ2 H2 S2 t2 l2 => ?_⟩
      have q3 := q2 σ2 H2 S2 (t1.trans t2) (l2.trans l1)
      cases f2 with
      | nx => exact q3
      | bk => exact q3
      | ct => exact q3
      | rt hd => exact fun v r => q3 v (r.back t1.some)
    | bk => exact q σ1 H1 S1 t1 l1
    | ct => exact q σ1 H1 S1 t1 l1
    | rt hd => exact q σ1 H1 S1 t1 l1⟩
def sRet (m : EM) : SM := fun ρ => do
  let (h, ρ1) ← m ρ
  pure (.rt h, ρ1)
theorem cs_ret (h : CEx X P0 O W E e ma) : CS X P0 O W U E (.Return (some e) pos) (sRet ma) := PS.imp (ps_ret h) fun D σ H ⟨ρ, S, h⟩ =>
  ⟨ρ, S, (h.of_bind.down S.sub).mono fun ⟨hd, ρ1⟩ q v H1 S1 k1 r1 => q σ H1 S1 (Tr.of S.sub k1) rfl v r1⟩
def sIf (t : BM) (m n : SM) : SM := fun ρ => do
  let (k, ρ1) ← t ρ
  if k = true then m ρ1 else n ρ1
theorem Fin.back {K : PySem.W.Frag} {Hs Hs' : Hp} {D : Ends} {σ : St} {H : Hp} {f : Fl} (k : ∀ b, Hs b ≠ none → Hs' b ≠ none) (h : Fin K P0 O Hs D σ H f) : Fin K P0 O Hs' D σ H f := by
  cases f with
  | rt hd => exact fun v r => h v (r.back k)
  | nx => exact h
  | bk => exact h
  | ct => exact h
theorem cs_if {t : BM} {xs ys : List Stmt} (hc : CT X P0 O W E c t) (h1 : CSs X P0 O W U E xs m) (h2 : CSs X P0 O W U E ys n) : CS X P0 O W U E (.If c xs ys pos) (sIf t m n) := PS.imp (ps_if hc h1 h2) fun D σ H ⟨ρ, S, h⟩ =>
  ⟨ρ, S, (h.of_bind.down S.sub).mono fun ⟨k, ρ1⟩ q H1 S1 k1 => by
    cases k with
    | true =>
      exact (if_pos rfl).mpr ⟨ρ1, S1, (Res.keepT (show Res E O σ H (m ρ1) _ from q) (Tr.of (U := U) S.sub k1)).mono fun ⟨f2, ρ2⟩ q2 σ2 H2 S2 t2 l2 => (q2 σ2 H2 S2 ((Tr.of S.sub k1).trans t2) l2).back fun b e => k1.some b e⟩
    | false =>
      exact (if_neg Bool.false_ne_true).mpr ⟨ρ1, S1, (Res.keepT (show Res E O σ H (n ρ1) _ from q) (Tr.of (U := U) S.sub k1)).mono fun ⟨f2, ρ2⟩ q2 σ2 H2 S2 t2 l2 => (q2 σ2 H2 S2 ((Tr.of S.sub k1).trans t2) l2).back fun b e => k1.some b e⟩⟩
end
end Y

set_option Elab.async false
set_option linter.all false
set_option maxRecDepth 100000
namespace Y
open PySem PySem.Spec PyProof.Rows L2
section
variable {K : PySem.W.Frag} {X : Cx} {P0 : Pr} {O W U : List Nat} {E : EK} {a b c e tg iter : Expr} {es : List Expr} {ma mb mc : EM} {ms : AM} {pos : Pos} {st : Stmt} {sts : List Stmt} {m n : SM}
def sAsg (m : EM) (tm : GM) : SM := fun ρ => do
  let (h, ρ1) ← m ρ
  let d ← h.v.nox
  let ρ2 ← (tm d ρ1).nox
  pure (.nx, ρ2)
theorem Tr.slots {is : List Nat} {σ σ' : St} {H : Hp} (ho : ∀ i ∈ is, i ∉ O) (hu : ∀ i ∈ U, i ∈ O) (h : ∀ j, j ∉ is → σ'[j]? = σ[j]?) : Tr O U σ H σ' H :=
  ⟨fun _ _ e _ => e, fun _ e => e, fun b z => .inl ((OA_of (fun i hi => h i fun y => ho i y hi) b).mp z), fun i hi => h i fun y => ho i y (hu i hi)⟩
theorem tM_asg {tm : GM} {is : List Nat} (ho : ∀ i ∈ is, i ∉ O) (hu : ∀ i ∈ U, i ∈ O) (D : Ends) (σ : St) (H : Hp) (h : tSt K P0 O W U E (sAsg ma tm) D σ H) : tAsg (tM K P0 O W E ma) (tG K P0 O W tm is) D σ H := by
  obtain ⟨ρ, S, h⟩ := h
  refine ⟨ρ, S, (h.of_bind.down S.sub).mono fun ⟨hd, ρ1⟩ q v H1 S1 k1 r1 => ?_⟩
  obtain ⟨d, e1, q⟩ := q.of_nox
  obtain ⟨ρ2, e2, q⟩ := q.of_nox
  exact ⟨ρ1, d, ρ2, S1, r1.v e1, e2, fun σ' S' l h' => q σ' H1 S' ((Tr.of S.sub k1).trans (Tr.slots ho hu h')) l⟩
theorem cs_asg {tm : GM} {is : List Nat} (h : CEx X P0 O W E e ma) (hg : CG X P0 O W tg tm is) (ho : ∀ i ∈ is, i ∉ O := by decide) (hu : ∀ i ∈ U, i ∈ O := by decide) (hs : swapsWithSole [tg] e pos.line X.env = pure false := by rfl) (hw : swappedStores [tg] e X.env = pure none := by rfl) (h1 : (assignEach [tg] X.env).map (·.2) = [assign tg X.env] := by rfl) : CS X P0 O W U E (.Assign [tg] e pos) (sAsg ma tm) :=
  PS.imp (ps_asg h hg hs hw h1) (tM_asg ho hu)
/-- y = [.. for ..] on one line, y not captured -/
theorem cs_asgLc {i : Nat} {y : Str} {py : Pos} {elt : Expr} {ifs : List Expr} {scope : Scope} {own : List (Str × Nat)} {im : IM} {tm : GM} {t : BM} {me : EM} {is : List Nat} {p2 : Pos} (hc : X.calm = true) (hN : X.N.Nodup) (hy : X.N[i]? = some y) (hyl : X.env.scope.names.lookup y = some .local)
    (hsw : swapsWith (.ListComp elt [⟨tg, iter, ifs, 0⟩] scope pos) (some (.Name y py)) p2.line X.env = pure true) (hi : CI X P0 O W E tg iter im) (ok : BlkOk X.N X.env.scope scope own)
    (hg : ∀ (P0 : Pr) (s : Shared) (H : Hp) (C : Addr) (cl : List (Str × Addr)) (fp : List Addr), CG (X.blk s H scope (compEnvC scope cl C X.env) fp) P0 O W tg tm is)
    (ht : ∀ (s : Shared) (H : Hp) (C : Addr) (cl : List (Str × Addr)) (fp : List Addr), CTs (X.blk s H scope (compEnvC scope cl C X.env) fp) O W E00 ifs t)
    (he : ∀ (P0 : Pr) (s : Shared) (H : Hp) (C : Addr) (cl : List (Str × Addr)) (fp : List Addr), CEx (X.blk s H scope (compEnvC scope cl C X.env) fp) P0 O W E00 elt me)
    (hv : ∀ i ∈ is, i ∈ own.map (·.2) := by decide) (ho : ∀ i ∈ own.map (·.2), i ∉ O := by decide) (hi' : i ∉ O := by decide) (hu : ∀ i ∈ U, i ∈ O := by decide) (hs : ∀ x, foldedSetIterable iter X.env x = pure x := by intro _; rfl) :
    CS X P0 O W U E (.Assign [.Name y py] (.ListComp elt [⟨tg, iter, ifs, 0⟩] scope pos) p2) (sAsg (cComp im tm t me (own.map (·.2))) (tmName i)) :=
  PS.imp (ps_setLc (i := i) hc hN hy hyl hsw hi ok (fun s H C cl fp => PG.ex fun P0 => hg P0 s H C cl fp) ht (fun s H C cl fp => PE.ex fun P0 => he P0 s H C cl fp) hs) fun D σ H h => by
    have q := tM_asg (is := [i]) (by simpa using hi') hu D σ H h
    refine comp_core (im := im) (tm := tm) (t := t) (me := me) hv ho σ H _ ?_
    obtain ⟨ρ, S, q⟩ := q
    refine ⟨ρ, S, q.mono fun a q v H1 S1 k1 r1 => ?_⟩
    obtain ⟨ρ1, d, ρ2, S2, r, e, q⟩ := q v H1 S1 k1 r1
    cases e
    exact q _ (S2.set hi' r) (by simp) fun j hj => List.getElem?_set_ne fun z => hj (by simp [z])
noncomputable def sOwn (O W : List Nat) (m : EM) (i : Nat) : SM := fun ρ => do
  let (h, ρ1) ← m ρ
  match h with
  | .fr d => do
    let _ ← (chkO O W ρ ρ1).nox
    if d.ownable = true then pure (.nx, ρ1.set i (some d)) else .stk
  | _ => .stk
theorem tM_own {i : Nat} (hi : i ∈ O) (hu : i ∉ U) (D : Ends) (σ : St) (H : Hp) (h : tSt K P0 O W U E (sOwn O W ma i) D σ H) : tAsg (tM K P0 O W E ma) (gName i) D σ H := by
  obtain ⟨ρ, S, h⟩ := h
  refine ⟨ρ, S, (h.of_bind.down S.sub).mono fun ⟨hd, ρ1⟩ q v H1 S1 k1 r1 => ?_⟩
  cases hd with
  | vl d => exact q.elim
  | ow j => exact q.elim
  | fr d =>
    obtain ⟨_, e1, q⟩ := Res.of_nox (show Res E O σ H ((chkO O W ρ ρ1).nox >>= _) _ from q)
    have c := chkO_ok e1
    by_cases hd : d.ownable = true
    · rw [if_pos hd] at q
      have new : ∀ a, v = .ref a → H a = none ∧ isMut (H1 a) := fun a e => by
        subst e
        have r := r1.1
        have f := r1.2
        cases d with
        | lst ds =>
          unfold Rep at r
          obtain ⟨b, vs, e, h0, h1, h2⟩ := r
          cases e
          exact ⟨f rfl _ rfl, by rw [h1]; trivial⟩
        | non => unfold Rep at r; cases r
        | bl _ => unfold Rep at r; cases r
        | int _ => unfold Rep at r; cases r
        | str _ => unfold Rep at r; cases r
        | tup _ => cases hd
        | arg _ => cases hd
        | ftu _ => cases hd
        | tab _ _ => cases hd
        | dik _ _ => cases hd
        | dit _ _ => cases hd
      have S2 := S.setO S1 k1 c hi new (r1.1.own S1.dom hd fun b z => z)
      have gs : ∀ {b : Addr}, OA O (σ.set i (some v)) b → OA O σ b ∨ H b = none := fun {b} ⟨j, hj, e⟩ => by
        by_cases hij : i = j
        · subst hij
          have h1 : i < σ.length := by have := (List.getElem?_eq_some_iff.mp e).1; simpa using this
          rw [List.getElem?_set_self h1] at e
          cases e
          exact .inr (new b rfl).1
        · rw [List.getElem?_set_ne hij] at e
          exact .inl ⟨j, hj, e⟩
      exact q _ H1 S2 ⟨fun b o e n => k1.keep b o e fun z => n (S.oaw z), k1.some, fun b z => gs z, fun j hj => List.getElem?_set_ne fun (z : i = j) => hu (by rw [z]; exact hj)⟩ (by simp)
    · rw [if_neg hd] at q
      exact q.elim
theorem cs_own {i : Nat} {x : Str} {p : Pos} (hN : X.N.Nodup) (h : CEx X P0 O W E e ma) (hi : i ∈ O := by decide) (hu : i ∉ U := by decide) (hx : X.N[i]? = some x := by rfl) (hl : Loc X.env.scope x := by first | exact Or.inl rfl | exact Or.inr rfl) (hf : X.fn x = true ∨ X.env.scope.names.lookup x = some .local := by first | exact .inl rfl | exact .inr rfl)
    (hs : swapsWithSole [.Name x p] e pos.line X.env = pure false := by rfl) (hw : swappedStores [.Name x p] e X.env = pure none := by rfl) : CS X P0 O W U E (.Assign [.Name x p] e pos) (sOwn O W ma i) :=
  PS.imp (ps_asg h (pg_name hN hx hl hf) hs hw) (tM_own hi hu)
/-- few arguments, no stars -/
abbrev Few (X : Cx) (cp : Pos) (es : List Expr) : Prop := ((backTo cp (starEach es X.env)).all (fun x => !x.1) && (backToKw cp (keywordEach [] X.env)).all (fun x => x.1.isSome)
      && decide (es.length + ([] : List Keyword).length + (if ([] : List Keyword).isEmpty then 0 else 1) < 30)) = true
theorem Tr.ownW {i : Nat} {l : Addr} {o : HO} {σ : L2.St} {H H1 : Hp} (hs : ∀ i ∈ W, i ∈ O) (k : Keep W σ H H1) (hi : i ∈ O) (ha : σ[i]? = Option.some (Option.some (V.ref l))) : Tr O U σ H σ (upd H1 l o) where
  keep := fun b u e n => by
    rw [upd_ne fun (z : b = l) => n ⟨i, hi, by rw [z]; exact ha⟩]
    exact k.keep b u e fun ⟨j, hj, z⟩ => n ⟨j, hs j hj, z⟩
  some := fun b e => by
    by_cases hb : b = l
    · rw [hb, upd_same]; intro z; cases z
    · rw [upd_ne hb]; exact k.some b e
  own := fun _ z => .inl z
  unch := fun _ _ => rfl
/-- the list of an own slot -/
theorem Sim.lst {ρ : Env} {σ : St} {H : Hp} (S : Sim K P0 O W ρ σ H) {i : Nat} {ds : List D} (hi : i ∈ O) (e : ρ[i]? = some (some (.lst ds))) : ∃ l vs, σ[i]? = some (some (.ref l)) ∧ H l = some (.lst vs) ∧ Reps K H ds (FA P0 O σ) vs := by
  obtain ⟨v, h1, l, vs, rfl, h2, h3⟩ := S.own i _ e hi
  exact ⟨l, vs, h1, h2, h3⟩
/-- .. is given other items -/
theorem Sim.lstW {ρ : Env} {σ : St} {H : Hp} (S : Sim K P0 O W ρ σ H) {i : Nat} {l : Addr} {ds' : List D} {vs' vs : List V} (hi : i ∈ O) (ha : σ[i]? = some (some (.ref l))) (hl : H l = some (.lst vs)) (r : Reps K H ds' (FA P0 O σ) vs') : Sim K P0 O W (ρ.set i (some (.lst ds'))) σ (upd H l (.lst vs')) :=
  S.ownW hi ha trivial ⟨l, vs', rfl, upd_same, r.mono ds' S.dom (fun b o e n => by rw [upd_ne fun z => n (.inr ⟨i, hi, by rw [z]; exact ha⟩)]; exact e) fun b z => .inl z⟩
def lstAt (i : Nat) (ρ : Env) : R (List D) := match ρ[i]? with
  | some (some (.lst ds)) => .ok ds
  | _ => .stk
theorem lstAt_ok {i : Nat} {ρ : Env} {ds : List D} (h : lstAt i ρ = .ok ds) : ρ[i]? = some (some (.lst ds)) := by
  unfold lstAt at h
  split at h
  · rename_i e; cases h; exact e
  · cases h
/-- x.append(e) -/
def sAppend (i : Nat) (m : EM) : SM := fun ρ => do
  let _ ← (lstAt i ρ).nox
  let (h, ρ1) ← m ρ
  let d ← h.v.nox
  let ds ← (lstAt i ρ1).nox
  if szOk (ds.length + 1) = true then pure (.nx, ρ1.set i (some (.lst (ds ++ [d])))) else .stk
theorem tM_append {i : Nat} (hi : i ∈ O) (D : Ends) (σ : St) (H : Hp) (h : tSt K P0 O W U E (sAppend i ma) D σ H) : tDrop (tBM K "list" rAppend (tVar i) (tCons (tM K P0 O W E ma) tNil)) D σ H := by
  obtain ⟨ρ, S, h⟩ := h
  obtain ⟨ds0, e0, h⟩ := h.of_nox
  obtain ⟨l, vs0, h1, h2, _⟩ := S.lst hi (lstAt_ok e0)
  refine ⟨.ref l, h1, .inl ⟨rfl, _, SqL.of h2⟩, ρ, S, (h.of_bind.down S.sub).mono fun ⟨hd, ρ1⟩ q v H1 S1 k1 r1 => ?_⟩
  obtain ⟨d, e1, q⟩ := q.of_nox
  obtain ⟨ds, e2, q⟩ := q.of_nox
  obtain ⟨l', vs, h1', h3, h4⟩ := S1.lst hi (lstAt_ok e2)
  rw [h1] at h1'
  cases h1'
  by_cases c : szOk (ds.length + 1) = true
  · rw [if_pos c] at q
    have c := of_decide_eq_true c
    refine ⟨l, vs, v, rfl, rfl, h3, by rw [h4.length]; omega, ?_⟩
    exact q σ _ (S1.lstW hi h1 h3 (h4.append (Reps.cons (r1.v e1) Reps.nil))) (Tr.ownW S.sub k1 hi h1) rfl
  · rw [if_neg c] at q
    exact q.elim
theorem cs_append {i : Nat} {x : Str} {p ap cp : Pos} (h : CEx X P0 O W E e ma) (hi : i ∈ O := by decide) (hx : X.N[i]? = some x := by rfl) (hv : Vis X.env.scope x := by first | exact Or.inl rfl | exact Or.inr (Or.inl rfl) | exact Or.inr (Or.inr rfl)) (hd : (x == ("__debug__" : Str)) = false := by decide) (hcd : (x == ("__classdict__" : Str)) = false := by decide)
    (he : starEach [e] X.env = (false, eval e X.env) :: starEach [] X.env := by rfl) (hpl : (backTo cp (starEach [] X.env)).any (·.1) = false := by rfl) (hbase : attributeBase (.Name x p) "append" X.env (eval (.Name x p) X.env) = eval (.Name x p) X.env := by rfl) (hline : (ap.endLine == cp.line) = true := by rfl)
    (hfew : Few X cp [e] := by rfl) (hsw : swapsWith (.Call (.Attribute (.Name x p) "append" ap) [e] [] cp) none pos.line X.env = pure false := by rfl) :
    CS X P0 O W U E (.Expr (.Call (.Attribute (.Name x p) "append" ap) [e] [] cp) pos) (sAppend i ma) :=
  PS.imp (ps_expr (pe_bm PySem.F.plainAttrs_list PySem.F.slot_list_append PySem.F.type_list_append mt_append (pe_var (i := i) hx hv hd hcd) (pa_cons h pa_nil he) hbase hfew hline he hpl) hsw) (tM_append hi)
end
end Y

set_option Elab.async false
set_option linter.all false
set_option maxRecDepth 100000
namespace Y
open PySem PySem.Spec PyProof.Rows L2
section
variable {K : PySem.W.Frag} {X : Cx} {P0 : Pr} {O W U : List Nat} {E : EK} {a b c e tg iter : Expr} {es : List Expr} {ma mb mc : EM} {ms : AM} {pos : Pos} {st : Stmt} {sts : List Stmt} {m n : SM}
def sSetIx (i : Nat) (mk mv : EM) : SM := fun ρ => do
  let (h, ρ1) ← mv ρ
  let d ← h.v.nox
  let _ ← (lstAt i ρ1).nox
  let (h2, ρ2) ← mk ρ1
  let k ← h2.v.nox
  match k with
  | .int z => do
    let ds ← (lstAt i ρ2).nox
    match ixN ds.length z with
    | some j => pure (.nx, ρ2.set i (some (.lst (ds.set j d))))
    | none => .stk
  | _ => .stk
theorem Reps.set {H : Hp} {P : Pr} {d : D} {v : V} (r : Rep K H d P v) : ∀ {ds : List D} {vs : List V} (j : Nat), Reps K H ds P vs → Reps K H (ds.set j d) P (vs.set j v)
  | [], _, j, h => by rw [h.nil_iff]; exact Reps.nil
  | x :: xs, _, 0, h => by
    obtain ⟨w, ws, rfl, h1, h2⟩ := h.cons_iff
    exact Reps.cons r h2
  | x :: xs, _, j + 1, h => by
    obtain ⟨w, ws, rfl, h1, h2⟩ := h.cons_iff
    exact Reps.cons h1 (Reps.set r j h2)
theorem cs_setix {i : Nat} {x : Str} {p sp : Pos} {k : Expr} {mk : EM} (h : CEx X P0 O W E e ma) (hk : CEx X P0 O W E k mk) (hi : i ∈ O := by decide) (hx : X.N[i]? = some x := by rfl) (hv : Vis X.env.scope x := by first | exact Or.inl rfl | exact Or.inr (Or.inl rfl) | exact Or.inr (Or.inr rfl)) (hd : (x == ("__debug__" : Str)) = false := by decide) (hcd : (x == ("__classdict__" : Str)) = false := by decide)
    (hs : swapsWithSole [.Subscript (.Name x p) k sp] e pos.line X.env = pure false := by rfl) (hw : swappedStores [.Subscript (.Name x p) k sp] e X.env = pure none := by rfl) (h1 : (assignEach [.Subscript (.Name x p) k sp] X.env).map (·.2) = [assign (.Subscript (.Name x p) k sp) X.env] := by rfl)
    (hb : ∀ v, assign (.Subscript (.Name x p) k sp) X.env v = (do
      let ov ← holding [v] (eval (.Name x p) X.env)
      let iv ← holding [v, ov] (eval k X.env)
      standAt sp
      holding [v, ov, iv] (setItem ov iv v)
      release [v, ov, iv] []) := by intro _; rfl) :
    CS X P0 O W U E (.Assign [.Subscript (.Name x p) k sp] e pos) (sSetIx i mk ma) := PS.imp (ps_asg h (pg_sub (pe_var (i := i) hx hv hd hcd) hk set_list hb) hs hw h1) fun D σ H ⟨ρ, S, h⟩ => by
  refine ⟨ρ, S, (h.of_bind.down S.sub).mono fun ⟨hd, ρ1⟩ q v H1 S1 k1 r1 => ?_⟩
  obtain ⟨d, e1, q1⟩ := q.of_nox
  obtain ⟨ds0, e0, q2⟩ := q1.of_nox
  obtain ⟨l, vs0, h1, h2, _⟩ := S1.lst hi (lstAt_ok e0)
  refine ⟨.ref l, h1, ρ1, S1, ((q2.of_bind.down S1.sub).keep k1).mono fun ⟨hd2, ρ2⟩ q3 w H2 S2 k2 r2 => ?_⟩
  obtain ⟨dk, e2, q4⟩ := q3.of_nox
  have rk := r2.v e2
  cases dk <;> first | (exact q4.elim) | skip
  rename_i z
  unfold Rep at rk
  subst rk
  obtain ⟨ds, e3, q5⟩ := Res.of_nox (show Res E O σ H ((lstAt i ρ2).nox >>= _) _ from q4)
  obtain ⟨l', vs, h1', h3, h4⟩ := S2.lst hi (lstAt_ok e3)
  rw [h1] at h1'
  cases h1'
  cases ej : ixN ds.length z with
  | none => rw [ej] at q5; exact q5.elim
  | some j =>
    rw [ej] at q5
    refine ⟨l, vs, z, j, rfl, rfl, h3, by rw [h4.length]; exact ej, ?_⟩
    exact q5 σ _ (S2.lstW hi h1 h3 (Reps.set (S1.rep k2 (r1.v e1)) j h4)) (Tr.ownW S.sub (k1.trans k2) hi h1) rfl
noncomputable def forL (tm : GM) (body : SM) (vs ws : List Nat) : List D → Env → R (Fl × Env)
  | [], ρ => .ok (.nx, ρ)
  | x :: xs, ρ => do
    let ρ1 ← (tm x ρ).nox
    let (f, ρ2) ← body ρ1
    match f with
    | .bk => pure (.nx, ρ2)
    | .rt h => pure (.rt h, ρ2)
    | _ => do
      let _ ← (chk ws ρ (wipeE ρ2 vs)).nox
      forL tm body vs ws xs (wipeE ρ2 vs)
noncomputable def sFor (U : List Nat) (im : IM) (tm : GM) (body : SM) (vs : List Nat) : SM := fun ρ => do
  let ((ds, ws), ρ1) ← im ρ
  if (ws.all fun w => U.contains w) = true then forL tm body vs ws ds ρ1 else .stk
theorem for_core {im : IM} {tm : GM} {is vs U' : List Nat} (ho : ∀ i ∈ is, i ∉ O) (hu : ∀ i ∈ U', i ∈ O) (hu' : ∀ i ∈ U, i ∈ U') (D : Ends) (σ : L2.St) (H : Hp) (h : tSt X.K P0 O W U E (sFor U' im tm m vs) D σ H) : tFor (tMi X.K P0 O W E im) (tG X.K P0 O W tm is) (tSt X.K P0 O W U' E m) D σ H := by
  obtain ⟨ρ, S, h⟩ := h
  refine ⟨ρ, S, (h.of_bind.down S.sub).mono fun ⟨⟨ds, ws⟩, ρ1⟩ q J H1 Ok S1 k1 src ok hz => ?_⟩
  have src : Src X.K O W ds ws J Ok := src
  have q : Res E O σ H (if (ws.all fun w => U'.contains w) = true then forL tm m vs ws ds ρ1 else .stk) _ := q
  by_cases hw : (ws.all fun w => U'.contains w) = true
  · rw [if_pos hw] at q
    have hw : ∀ w ∈ ws, w ∈ U' := fun w hw' => by simpa using List.all_eq_true.mp hw w hw'
    have t1 : Tr O U σ H σ H1 := Tr.of S.sub k1
    let Post : Fl × Env → Prop := fun a => ∀ σ' H', Sim X.K P0 O W a.2 σ' H' → Tr O U σ H σ' H' → σ'.length = σ.length → Fin X.K P0 O H D σ' H' a.1
    let I : Nat → L2.St → Hp → Prop := fun i σx Hx => i ≤ ds.length ∧ ∃ ρx, Sim X.K P0 O W ρx σx Hx ∧ Ok P0 ρx σx Hx ∧ Tr O U σ H σx Hx ∧ σx.length = σ.length ∧ Res E O σx Hx (forL tm m vs ws (ds.drop i) ρx) Post
    refine ⟨fun i k σx Hx => k = ds.length - i ∧ I i σx Hx, ⟨ds.length, by simp, Nat.zero_le _, ρ1, S1, ok, t1, rfl, Res.keepT (show Res E O σ H (forL tm m vs ws ds ρ1) Post from q) t1⟩, ?_⟩
    rintro i k σx Hx ⟨rfl, hil, ρx, Sx, okx, tx, lx, qx⟩
    by_cases hlt : i < ds.length
    · right
      refine ⟨src.go P0 i ρx σx Hx Sx okx hlt, I (i + 1), fun σ' H' p' => ⟨ds.length - (i + 1), by omega, rfl, p'⟩, fun x' H' y => ?_⟩
      obtain ⟨sm, rx⟩ := src.yld P0 i ρx σx Hx x' H' ds[i] Sx okx (List.getElem?_eq_getElem hlt) y
      rw [List.drop_eq_getElem_cons hlt] at qx
      unfold forL at qx
      obtain ⟨ρa, e1, qx⟩ := qx.of_nox
      refine ⟨ρx, ds[i], ρa, Sx.same sm, rx, e1, fun σ2 S2 l2 ag => ?_⟩
      have t2 : Tr O U' σx Hx σ2 H' := Tr.trans (σ1 := σx) (H1 := H') ⟨fun b o e _ => sm b o e, Same.some sm, fun _ z => .inl z, fun _ _ => rfl⟩ (Tr.slots ho hu ag)
      refine ⟨ρa, S2, (Res.keepT qx.of_bind t2).mono fun ⟨f, ρ2⟩ q3 σ3 H3 S3 t3 l3 => ?_⟩
      have t4 : Tr O U' σx Hx σ3 H3 := t2.trans t3
      have t5 : Tr O U σ H σ3 H3 := tx.trans (t4.less hu')
      have l5 : σ3.length = σ.length := l3.trans (l2.trans lx)
      have next : Res E O σx Hx (do let _ ← (chk ws ρx (wipeE ρ2 vs)).nox; forL tm m vs ws (ds.drop (i + 1)) (wipeE ρ2 vs)) Post → I (i + 1) σ3 H3 := fun q4 => by
        obtain ⟨_, e4, q5⟩ := Res.of_nox (show Res E O σx Hx ((chk ws ρx (wipeE ρ2 vs)).nox >>= fun _ => forL tm m vs ws (ds.drop (i + 1)) (wipeE ρ2 vs)) Post from q4)
        refine ⟨hlt, wipeE ρ2 vs, S3.wipe vs, ?_, t5, l5, Res.keepT q5 t4⟩
        refine src.keep P0 ρx σx Hx _ σ3 H3 Sx (fun b o e n => t4.keep b o e fun z => n (.inr z)) (fun b z => ?_) (fun w hw' => ⟨t4.unch w (hw w hw'), chk_ok e4 w hw'⟩) okx
        rcases z with z | z
        · exact .inl (.inl z)
        · exact (t4.own b z).imp .inr id
      cases f with
      | nx => exact next q3
      | ct => exact next q3
      | bk => exact q3 σ3 H3 S3 t5 l5
      | rt hd =>
        intro v r
        exact q3 σ3 H3 S3 t5 l5 v (r.back fun b e => Same.some sm b (tx.some b e))
    · left
      have ei : i = ds.length := by omega
      subst ei
      rw [List.drop_length] at qx
      exact ⟨src.stop P0 ρx σx Hx Sx okx, qx σx Hx Sx tx lx⟩
  · rw [if_neg hw] at q
    exact q.elim
theorem cs_for {im : IM} {tm : GM} {is vs U' : List Nat} {xs : List Stmt} (hp : PassesOwn (model X.prog X.w) X.A X.env X.xe) (hc : X.calm = true) (hi : CI X P0 O W E tg iter im) (hg : CG X P0 O W tg tm is) (hb : CSs X P0 O W U' E xs m) (ho : ∀ i ∈ is, i ∉ O := by decide) (hu : ∀ i ∈ U', i ∈ O := by decide) (hu' : ∀ i ∈ U, i ∈ U' := by decide)
    (hs : ∀ x, foldedSetIterable iter X.env x = pure x := by intro _; rfl) : CS X P0 O W U E (.For tg iter xs [] pos) (sFor U' im tm m vs) := PS.imp (ps_for hp hc hi hg hb hs) (for_core ho hu hu')
end
end Y

set_option Elab.async false
set_option linter.all false
set_option maxRecDepth 100000
namespace Y
open PySem PySem.Spec PyProof.Rows L2

theorem passN {X : Cx} : Passes (L2N.CX X.prog X.w) X E0 := fun _ _ _ _ _ _ _ q => by
  rcases q with ⟨_, _, _, _, _, _, _, _, _, _, _, _, f⟩
  exact False.elim f
theorem okN {P : Program} {w : World} {K : PySem.W.Frag} {mg : Str → Option Value} {base : Heap} {x qual : Str} {st : Stmt} {f : Addr} {fd : FuncData} {N ps : List Str} {k : Nat} {sp : Sp} (F : Fun K x qual st f fd) (S : FnScope N ps (defScope st)) (hlen : ∀ vs H Q E, sp vs H Q E → vs.length = ps.length)
    (hb : ∀ (cdv : Value) (A : Around) (outer : List PySem.Env) (s : Shared) (H : Hp) (vs : List V) (Q : VK) (E : XK), Room k (A.deeper (envOfC qual (defScope st) s.heap.objs.size f cdv)) → sp vs H Q E →
      ∃ t, PSs (cxOf (L2N.CX P w) P w K mg base N qual (defScope st) f cdv A outer s H E) (defBody st) t ∧ t { nx := fun _ H' => Q .non H', rt := Q } (L2.start N vs) H) : FnOk P w K mg base (L2N.CX P w) (k + 1) f fd ps sp := by
  rcases F.ex with ⟨_, _, _, _, _, _, cd, _, _, rfl, look, code⟩
  exact fn_of look code S hlen fun A outer s H vs Q E => hb cd A outer s H vs Q E

/-- an exception of the program's own, made with a text -/
def exE (mg : Str → Option Value) (E : XK) : EK := fun c ds H => ds = [] ∧ ∃ C, mg c = some (.ref C) ∧ E (.ref C) none H
abbrev Fn := List D → R (Hd × Env)
/-- O: the parameters whose lists it may change -/
def spD (K : PySem.W.Frag) (mg : Str → Option Value) (np : Nat) (O : List Nat) (g : Fn) : Sp := fun vs H Q E => vs.length = np ∧ ∃ ds P0, Sim K P0 O [] (ds.map some) (vs.map some) H ∧ ds.length = np ∧
  Res (exE mg E) O (vs.map some) H (g ds) fun a => ∀ v H', Keep O (vs.map some) H H' → Sim K P0 O [] a.2 (vs.map some) H' → HdR K P0 O H (vs.map some) H' a.1 v → Q v H'
structure Glo (P : Program) (w : World) (K : PySem.W.Frag) (mg : Str → Option Value) (base : Heap) (name : Str) (k np : Nat) (O : List Nat) (g : Fn) : Prop where
  ex : ∃ f fd ps, mg name = some (.ref f) ∧ PySem.W.keepIn K (.ref f) = true ∧ Binds K fd ps [] ∧ ps.length = np ∧ FnOk P w K mg base (L2N.CX P w) k f fd ps (spD K mg np O g)
/-- exceptions of callees reach what is wanted here -/
structure Out2 (X : Cx) (E : EK) (XE : XK) : Prop where
  pass : Passes (L2N.CX X.prog X.w) X XE
  ex : ∀ c ds H, E c ds H → exE X.mg XE c ds H
theorem Out2.blk {X : Cx} : Out2 X E00 E0 := ⟨passN, fun _ _ _ h => h.elim⟩
def pureF (g : List D → R Hd) : Fn := fun ds => do
  let h ← g ds
  pure (h, [])
section
variable {K : PySem.W.Frag} {P0 : Pr} {O W : List Nat} {ρ : Env} {σ : St} {H H' : Hp}
theorem FA_nil {τ : St} (b : Addr) : FA P0 [] τ b ↔ P0 b := ⟨fun z => z.elim id (fun ⟨_, h, _⟩ => (nomatch h)), .inl⟩
theorem Keep.nil {τ : St} (k : Keep [] τ H H') : Same H H' := fun b o e => k.keep b o e fun ⟨_, h, _⟩ => nomatch h
/-- the callee's state where no parameter is its own -/
theorem sim_args {ds : List D} {vs : List V} (hm : ∀ b, P0 b → isMut (H b)) (r : Reps K H ds P0 vs) : Sim K P0 [] [] (ds.map some) (vs.map some) H where
  sub := fun _ h => nomatch h
  len := by rw [List.length_map, List.length_map, r.length]; exact Nat.le_refl _
  dom := fun b z => hm b ((FA_nil b).mp z)
  val := fun i d e _ => by
    rw [List.getElem?_map] at e
    cases q : ds[i]? with
    | none => rw [q] at e; cases e
    | some d' =>
      rw [q] at e; cases e
      obtain ⟨v, e1, r1⟩ := r.get q
      exact ⟨v, by rw [List.getElem?_map, e1]; rfl, r1.less hm fun b z => (FA_nil b).mp z⟩
  own := fun i d e h => nomatch h
  sep := fun _ _ _ h => nomatch h
  sep0 := fun a ⟨_, h, _⟩ => nomatch h
end
section
variable {X : Cx} {P0 : Pr} {O W U : List Nat} {E : EK} {XE : XK} {a b c e : Expr} {es : List Expr} {ma mb mc : EM} {ms : AM} {pos : Pos} {k np : Nat} {name : Str}
/-- f(..), no argument's list is changed -/
def cCallF (g : List D → R Hd) (m : AM) : EM := fun ρ => do
  let (hs, ρ1) ← m ρ
  let ds ← (vsOf hs).nox
  let h ← g ds
  match h with
  | .ow _ => .stk
  | h => pure (h, ρ1)
theorem tM_callF {g : List D → R Hd} (hE : ∀ c ds H, E c ds H → exE X.mg XE c ds H) (σ : St) (H : Hp) (Q : VK) (len : ∀ σ H Q, tMs X.K P0 O W E ms σ H Q → True) (h : tM X.K P0 O W E (cCallF g ms) σ H Q) (hl : ∀ ρ hs ρ1, ms ρ = .ok (hs, ρ1) → hs.length = np) :
    tCall (spD X.K X.mg np [] (pureF g)) [] XE (tMs X.K P0 O W E ms) σ H Q := by
  obtain ⟨ρ, S, h⟩ := h
  refine ⟨ρ, S, ?_⟩
  cases em : ms ρ with
  | stk => unfold cCallF at h; rw [em] at h; exact h.elim
  | er c ds => unfold cCallF at h; rw [em] at h; exact h
  | ok p =>
    obtain ⟨hs, ρ1⟩ := p
    unfold cCallF at h
    rw [em] at h
    intro vs H1 S1 k1 r1
    obtain ⟨ds, e1, q⟩ := Res.of_nox (show Res E W σ H ((vsOf hs).nox >>= _) _ from h)
    have rr := HdRs.vs r1 e1
    have lv : vs.length = np := by
      have : ∀ {hs : List Hd} {vs : List V}, HdRs X.K P0 O H σ H1 hs vs → vs.length = hs.length := fun {hs} => by
        induction hs with
        | nil => intro vs r; have r : vs = [] := r; rw [r]; rfl
        | cons h hs ih => intro vs ⟨v, ws, e, _, r2⟩; rw [e, List.length_cons, List.length_cons, ih r2]
      rw [this r1]
      exact hl ρ hs ρ1 em
    rw [List.append_nil]
    refine ⟨lv, ds, FA P0 O σ, sim_args S1.dom rr, by rw [← rr.length]; exact lv, ?_⟩
    have q := q.keep k1
    unfold pureF
    cases eg : g ds with
    | stk => rw [eg] at q; exact q.elim
    | er c xs =>
      rw [eg] at q
      exact fun H' kp => hE c xs H' (q H' (Keep.same kp.nil))
    | ok hd =>
      rw [eg] at q
      intro v H2 k2 _ r2
      have sm := Keep.nil k2
      cases hd with
      | ow j => exact q.elim
      | fr d => exact q v H2 (S1.same sm) (k1.trans (Keep.same sm)) ⟨r2.1.less (fun b z => (S1.same sm).dom b ((FA_nil b).mp z)) fun b z => .inl z, fun m a e => Classical.byContradiction fun z => k1.some a z (r2.2 m a e)⟩
      | vl d => exact q v H2 (S1.same sm) (k1.trans (Keep.same sm)) (Rep.less (fun b z => (S1.same sm).dom b ((FA_nil b).mp z)) r2 fun b z => .inl z)
/-- the number of arguments -/
def ALen (m : AM) (n : Nat) : Prop := ∀ ρ hs ρ1, m ρ = .ok (hs, ρ1) → hs.length = n
theorem alen_nil : ALen cNil 0 := fun ρ hs ρ1 h => by cases h; rfl
theorem alen_cons {n : Nat} (h : ALen ms n) : ALen (cCons ma ms) (n + 1) := fun ρ hs ρ1 e => by
  obtain ⟨⟨h1, ρa⟩, e1, e⟩ := R.ok_of e
  obtain ⟨⟨h2, ρb⟩, e2, e⟩ := R.ok_of e
  cases e
  rw [List.length_cons, h _ _ _ e2]
theorem ce_call {g : List D → R Hd} {p : Pos} (G : Glo X.prog X.w X.K X.mg X.base name k np [] (pureF g)) (o : Out2 X E XE) (hr : Room k X.A) (ha : CA X P0 O W E (e :: es) ms) (hl : ALen ms np) (hg : Gl X name := by rfl) (hdb : (name == ("__debug__" : Str)) = false := by decide)
    (he : starEach (e :: es) X.env = (false, eval e X.env) :: starEach es X.env := by rfl) (hpl : (backTo pos (starEach es X.env)).any (·.1) = false := by rfl) : CEx X P0 O W E (.Call (.Name name p) (e :: es) [] pos) (cCallF g ms) := by
  obtain ⟨f, fd, ps, hm, hk, hb, _, F⟩ := G.ex
  exact PE.imp (pe_call F hr hg hm hk hb .nil o.pass ha hdb he hpl) fun σ H Q h => tM_callF o.ex σ H Q (fun _ _ _ _ => trivial) h hl
end
end Y

set_option Elab.async false
set_option linter.all false
set_option maxRecDepth 100000
namespace Y
open PySem PySem.Spec PyProof.Rows L2

def retH (np : Nat) : Fl → Env → R Hd
  | .nx, _ => .ok (.fr .non)
  | .rt (.ow i), ρ => if np ≤ i then (do
      let d ← (look i ρ).nox
      pure (.fr d)) else .stk
  | .rt h, _ => .ok h
  | _, _ => .stk
def outs (O : List Nat) (np : Nat) (ρ : Env) : Env := (List.range np).map fun i => if O.contains i = true then ρ.getD i none else none
def fnD (np n : Nat) (O : List Nat) (m : SM) : Fn := fun ds => do
  let (f, ρ) ← m (ds.map some ++ List.replicate (n - np) none)
  let h ← (retH np f ρ).nox
  pure (h, outs O np ρ)
section
variable {K : PySem.W.Frag} {mg : Str → Option Value} {P0 : Pr} {O Oc W U : List Nat} {ρ : Env} {σ : St} {H H' : Hp} {d : D} {v : V} {np n : Nat}
theorem RepO.less {P P' : Pr} (hm : ∀ b, P b → isMut (H b)) (h : RepO K H d P v) (hp : ∀ b, P' b → P b) : RepO K H d P' v := h.mono hm (fun _ _ e _ => e) (fun b z => .inl (hp b z)) fun _ _ _ e => e
/-- an own slot's object, told on -/
theorem RepO.rep {P P' : Pr} (hm : ∀ b, P b → isMut (H b)) (h : RepO K H d P v) (hp : ∀ b, P' b → P b) (ha : ∀ a, v = .ref a → ¬ P' a ∧ P a) : Rep K H d P' v := by
  cases d with
  | lst ds =>
    obtain ⟨a, vs, rfl, h1, h2⟩ := h
    unfold Rep
    exact ⟨a, vs, rfl, (ha a rfl).1, h1, h2.less hm fun b z => z.elim (hp b) fun z => by rw [z]; exact (ha a rfl).2⟩
  | dik ks ds =>
    obtain ⟨a, vs, rfl, hl, h1, h2⟩ := h
    unfold Rep
    exact ⟨a, vs, rfl, (ha a rfl).1, hl, .inl h1, h2.less hm fun b z => z.elim (hp b) fun z => by rw [z]; exact (ha a rfl).2⟩
  | dit ks ds =>
    obtain ⟨a, vs, rfl, hl, h1, h2⟩ := h
    unfold Rep
    exact ⟨a, vs, rfl, (ha a rfl).1, hl, .inl h1, h2.less hm fun b z => z.elim (hp b) fun z => by rw [z]; exact (ha a rfl).2⟩
  | non => unfold Rep; exact h
  | bl _ => unfold Rep; exact h
  | int _ => unfold Rep; exact h
  | str _ => unfold Rep; exact h
  | tup _ => exact False.elim h
  | arg _ => exact False.elim h
  | ftu _ => exact False.elim h
  | tab p q =>
    obtain ⟨a, rfl, ht⟩ := h
    unfold Rep
    exact ⟨a, rfl, (ha a rfl).1, ht⟩
theorem start_get {N : List Str} {vs : List V} {i : Nat} {v : V} (h : (L2.start N vs)[i]? = some (some v)) : vs[i]? = some v := by
  unfold L2.start at h
  by_cases hi : i < vs.length
  · rw [List.getElem?_append_left (by simpa using hi), List.getElem?_map] at h
    cases e : vs[i]? with
    | none => rw [e] at h; cases h
    | some a => rw [e] at h; cases h; rfl
  · rw [List.getElem?_append_right (by simpa using hi), List.getElem?_replicate] at h
    split at h <;> cases h
theorem start_of {N : List Str} {vs : List V} {i : Nat} {v : V} (h : vs[i]? = some v) : (L2.start N vs)[i]? = some (some v) := by
  unfold L2.start
  have hi : i < vs.length := (List.getElem?_eq_some_iff.mp h).1
  rw [List.getElem?_append_left (by simpa using hi), List.getElem?_map, h]
  rfl
theorem env_get {ds : List D} {k i : Nat} {d : D} (h : (ds.map some ++ List.replicate k none)[i]? = some (some d)) : ds[i]? = some d := by
  by_cases hi : i < ds.length
  · rw [List.getElem?_append_left (by simpa using hi), List.getElem?_map] at h
    cases e : ds[i]? with
    | none => rw [e] at h; cases h
    | some a => rw [e] at h; cases h; rfl
  · rw [List.getElem?_append_right (by simpa using hi), List.getElem?_replicate] at h
    split at h <;> cases h
theorem map_get {α : Type} {ds : List α} {i : Nat} {d : α} : (ds.map some)[i]? = some (some d) ↔ ds[i]? = some d := by
  rw [List.getElem?_map]
  cases ds[i]? <;> simp
theorem OA_start {N : List Str} {vs : List V} (hO : ∀ i, i ∈ O ↔ i ∈ Oc ∧ i < np) (hl : vs.length = np) (b : Addr) : OA Oc (L2.start N vs) b ↔ OA O (vs.map some) b := by
  constructor
  · rintro ⟨i, hi, e⟩
    have e := start_get e
    exact ⟨i, (hO i).mpr ⟨hi, by rw [← hl]; exact (List.getElem?_eq_some_iff.mp e).1⟩, map_get.mpr e⟩
  · rintro ⟨i, hi, e⟩
    exact ⟨i, ((hO i).mp hi).1, start_of (map_get.mp e)⟩
theorem sim_start {N : List Str} {ds : List D} {vs : List V} (S : Sim K P0 O [] (ds.map some) (vs.map some) H) (hO : ∀ i, i ∈ O ↔ i ∈ Oc ∧ i < np) (hW : ∀ i ∈ W, i ∈ Oc) (hl : vs.length = np) (hd : ds.length = np) (hn : N.length = n) : Sim K P0 Oc W (ds.map some ++ List.replicate (n - np) none) (L2.start N vs) H := by
  have fa : ∀ b, FA P0 Oc (L2.start N vs) b → FA P0 O (vs.map some) b := fun b z => z.imp id (OA_start hO hl b).mp
  refine ⟨hW, by unfold L2.start; simp; omega, fun b z => S.dom b (fa b z), fun i d e n => ?_, fun i d e n => ?_, fun i j a hi hj e1 e2 => ?_, fun a z => S.sep0 a ((OA_start hO hl a).mp z)⟩
  · obtain ⟨v, h1, h2⟩ := S.val i d (map_get.mpr (env_get e)) fun z => n ((hO i).mp z).1
    exact ⟨v, start_of (map_get.mp h1), h2.less S.dom fa⟩
  · have e := env_get e
    have hi : i < np := by rw [← hd]; exact (List.getElem?_eq_some_iff.mp e).1
    obtain ⟨v, h1, h2⟩ := S.own i d (map_get.mpr e) ((hO i).mpr ⟨n, hi⟩)
    exact ⟨v, start_of (map_get.mp h1), h2.less S.dom fa⟩
  · have e1 := start_get e1
    have e2 := start_get e2
    have l1 : i < np := by rw [← hl]; exact (List.getElem?_eq_some_iff.mp e1).1
    have l2 : j < np := by rw [← hl]; exact (List.getElem?_eq_some_iff.mp e2).1
    exact S.sep i j a ((hO i).mpr ⟨hi, l1⟩) ((hO j).mpr ⟨hj, l2⟩) (map_get.mpr e1) (map_get.mpr e2)
theorem outs_get {i : Nat} (h : (outs O np ρ)[i]? = some (some d)) : i ∈ O ∧ i < np ∧ ρ[i]? = some (some d) := by
  unfold outs at h
  rw [List.getElem?_map] at h
  cases e : (List.range np)[i]? with
  | none => rw [e] at h; cases h
  | some j =>
    rw [e] at h
    have hi := (List.getElem?_eq_some_iff.mp e).1
    have hj : j = i := by
      obtain ⟨h1, h2⟩ := List.getElem?_eq_some_iff.mp e
      simpa using h2.symm
    subst hj
    simp only [Option.map_some, Option.some.injEq] at h
    split at h
    · rename_i c
      refine ⟨by simpa using c, by simpa using hi, ?_⟩
      rw [List.getD_eq_getElem?_getD] at h
      cases q : ρ[j]? with
      | none => rw [q] at h; cases h
      | some o => rw [q] at h; simp at h; rw [h]
    · cases h
/-- THE RULE for a def -/
theorem fnD_ok {P : Program} {w : World} {base : Heap} {x qual : Str} {st : Stmt} {f : Addr} {fd : FuncData} {N ps : List Str} {k : Nat} {m : SM} (F : Fun K x qual st f fd) (S : FnScope N ps (defScope st)) (hp : ps.length = np) (hn : N.length = n) (hO : ∀ i, i ∈ O ↔ i ∈ Oc ∧ i < np) (hW : ∀ i ∈ W, i ∈ Oc) (hU : ∀ i ∈ O, i ∈ U)
    (hb : ∀ (cdv : Value) (A : Around) (outer : List PySem.Env) (s : Shared) (H : Hp) (E : XK) (P0 : Pr), Room k (A.deeper (envOfC qual (defScope st) s.heap.objs.size f cdv)) → CSs (cxOf (L2N.CX P w) P w K mg base N qual (defScope st) f cdv A outer s H E) P0 Oc W U (exE mg E) (defBody st) m) :
    FnOk P w K mg base (L2N.CX P w) (k + 1) f fd ps (spD K mg np O (fnD np n O m)) := by
  refine okN F S (fun vs H Q E h => by rw [h.1, hp]) fun cdv A outer s H vs Q E hr h => ?_
  obtain ⟨hl, ds, P0, S0, hd, h⟩ := h
  refine ⟨_, hb cdv A outer s H E P0 hr, _, sim_start S0 hO hW hl hd hn, ?_⟩
  have oa := fun b => OA_start (N := N) hO hl b
  have kO : ∀ {H'}, Keep Oc (L2.start N vs) H H' → Keep O (vs.map some) H H' := fun {H'} k => ⟨fun b o e nn => k.keep b o e fun z => nn ((oa b).mp z), k.some⟩
  unfold fnD at h
  cases em : m (ds.map some ++ List.replicate (n - np) none) with
  | stk => rw [em] at h; exact h.elim
  | er c xs => rw [em] at h; exact fun H' kp => h H' (kO kp)
  | ok p =>
    obtain ⟨fl, ρ1⟩ := p
    rw [em] at h
    obtain ⟨hh, e1, h⟩ := Res.of_nox (show Res (exE mg E) O (vs.map some) H ((retH np fl ρ1).nox >>= _) _ from h)
    intro σ' H' S' t' l'
    have h : ∀ v H', Keep O (vs.map some) H H' → Sim K P0 O [] (outs O np ρ1) (vs.map some) H' → HdR K P0 O H (vs.map some) H' hh v → Q v H' := h
    have un : ∀ i ∈ O, σ'[i]? = (L2.start N vs)[i]? := fun i hi => t'.unch i (hU i hi)
    have pre : ∀ {i : Nat} {v : V}, i ∈ O → (σ'[i]? = some (some v) ↔ (vs.map some)[i]? = some (some v)) := fun {i v} hi => by
      rw [un i hi]
      exact ⟨fun e => map_get.mpr (start_get e), fun e => start_of (map_get.mp e)⟩
    have oO : ∀ b, OA O (vs.map some) b → OA Oc σ' b := fun b ⟨i, hi, e⟩ => ⟨i, ((hO i).mp hi).1, (pre hi).mpr e⟩
    have fa : ∀ b, FA P0 O (vs.map some) b → FA P0 Oc σ' b := fun b z => z.imp id (oO b)
    have kk : Keep O (vs.map some) H H' := ⟨fun b o e nn => t'.keep b o e fun z => nn ((oa b).mp z), t'.some⟩
    have so : Sim K P0 O [] (outs O np ρ1) (vs.map some) H' := by
      refine ⟨fun _ z => (nomatch z), by unfold outs; simp [hl], fun b z => S'.dom b (fa b z), fun i d e nn => absurd (outs_get e).1 nn, fun i d e hi => ?_, S0.sep, S0.sep0⟩
      obtain ⟨_, _, e2⟩ := outs_get e
      obtain ⟨v, h1, h2⟩ := S'.own i d e2 ((hO i).mp hi).1
      exact ⟨v, (pre hi).mp h1, h2.less S'.dom fa⟩
    cases fl with
    | bk => cases e1
    | ct => cases e1
    | nx => cases e1; exact h .non H' kk so ⟨by unfold Rep; rfl, fun z => by cases z⟩
    | rt hd' =>
      intro v r
      cases hd' with
      | fr d => cases e1; exact h v H' kk so ⟨r.1.less S'.dom fa, r.2⟩
      | vl d => cases e1; exact h v H' kk so (Rep.less S'.dom r fa)
      | ow i =>
        have e1 : (if np ≤ i then (do
          let d ← (look i ρ1).nox
          pure (Hd.fr d)) else .stk) = R.ok hh := e1
        by_cases hi : np ≤ i
        · rw [if_pos hi] at e1
          obtain ⟨d, e2, e1⟩ := R.ok_of e1
          cases e1
          have e2 := look_some (R.nox_of e2)
          obtain ⟨v', h1, h2⟩ := S'.own i d e2 r.1
          have q : σ'[i]? = some (some v) := r.2
          rw [q] at h1
          cases h1
          have no : ∀ a, v = .ref a → ¬ OA O (vs.map some) a := fun a e z => by
            obtain ⟨j, hj, ej⟩ := z
            have := S'.sep i j a r.1 ((hO j).mp hj).1 (by rw [q, e]) ((pre hj).mpr ej)
            have := ((hO j).mp hj).2
            omega
          refine h v H' kk so ⟨h2.rep S'.dom fa fun a e => ⟨fun z => ?_, .inr ⟨i, r.1, by rw [q, e]⟩⟩, fun _ a e => ?_⟩
          · rcases z with z | z
            · exact S'.sep0 a ⟨i, r.1, by rw [q, e]⟩ z
            · exact no a e z
          · rcases t'.own a ⟨i, r.1, by rw [q, e]⟩ with z | z
            · exact absurd ((oa a).mp z) (no a e)
            · exact z
        · rw [if_neg hi] at e1
          cases e1
end
end Y

set_option Elab.async false
set_option linter.all false
set_option maxRecDepth 100000
namespace Y
open PySem PySem.Spec PyProof.Rows L2

def placed (pr : List (Nat × Nat)) : Nat → List Hd → Bool
  | _, [] => true
  | j, .ow i :: hs => pr.contains (j, i) && placed pr (j + 1) hs
  | j, _ :: hs => (!pr.any fun p => p.1 == j) && placed pr (j + 1) hs
def putOuts (os : Env) : List (Nat × Nat) → Env → Env
  | [], ρ => ρ
  | (j, i) :: pr, ρ => (putOuts os pr ρ).set i (os.getD j none)
def cCallIO (pr : List (Nat × Nat)) (g : Fn) (m : AM) : EM := fun ρ => do
  let (hs, ρ1) ← m ρ
  if placed pr 0 hs = true then do
    let ds ← (dsOf hs ρ1).nox
    let (h, os) ← g ds
    match h with
    | .ow _ => .stk
    | h => pure (h, putOuts os pr ρ1)
  else .stk
section
variable {K : PySem.W.Frag} {P0 : Pr} {O Oc W : List Nat} {ρ : Env} {σ : St} {Hs H H' : Hp} {pr : List (Nat × Nat)} {os : Env}
theorem putOuts_len : ∀ pr : List (Nat × Nat), (putOuts os pr ρ).length = ρ.length
  | [] => rfl
  | (j, i) :: pr => by unfold putOuts; rw [List.length_set, putOuts_len pr]
theorem putOuts_ne {x : Nat} : ∀ {pr : List (Nat × Nat)}, x ∉ pr.map (·.2) → (putOuts os pr ρ)[x]? = ρ[x]?
  | [], _ => rfl
  | (j, i) :: pr, h => by
    simp only [List.map_cons, List.mem_cons, not_or] at h
    unfold putOuts
    rw [List.getElem?_set_ne fun z => h.1 z.symm, putOuts_ne h.2]
theorem putOuts_at {j i : Nat} {d : D} : ∀ {pr : List (Nat × Nat)}, (pr.map (·.2)).Nodup → (j, i) ∈ pr → (putOuts os pr ρ)[i]? = some (some d) → os[j]? = some (some d)
  | [], _, h, _ => nomatch h
  | (j', i') :: pr, nd, h, e => by
    simp only [List.map_cons, List.nodup_cons] at nd
    unfold putOuts at e
    rcases List.mem_cons.mp h with z | z
    · cases z
      have hl : i < (putOuts os pr ρ).length := by
        have := (List.getElem?_eq_some_iff.mp e).1
        simpa using this
      rw [List.getElem?_set_self hl, List.getD_eq_getElem?_getD] at e
      cases q : os[j]? with
      | none => rw [q] at e; cases e
      | some o => rw [q] at e; simp at e; rw [e]
    · have hi : i' ≠ i := fun y => nd.1 (by rw [y]; exact List.mem_map.mpr ⟨_, z, rfl⟩)
      rw [List.getElem?_set_ne hi] at e
      exact putOuts_at nd.2 z e
theorem HdRs.at : ∀ {hs : List Hd} {vs : List V} {j : Nat} {v : V}, HdRs K P0 O Hs σ H hs vs → vs[j]? = some v → ∃ h, hs[j]? = some h ∧ HdR K P0 O Hs σ H h v
  | [], _, _, _, r, e => by have r : _ = [] := r; rw [r] at e; simp at e
  | h :: hs, _, 0, v, ⟨w, ws, e0, r1, _⟩, e => by subst e0; simp at e; subst e; exact ⟨h, rfl, r1⟩
  | h :: hs, _, j + 1, v, ⟨w, ws, e0, _, r2⟩, e => by subst e0; simpa using HdRs.at r2 (by simpa using e)
theorem HdRs.len : ∀ {hs : List Hd} {vs : List V}, HdRs K P0 O Hs σ H hs vs → vs.length = hs.length
  | [], _, r => by have r : _ = [] := r; rw [r]; rfl
  | h :: hs, _, ⟨w, ws, e0, _, r2⟩ => by subst e0; rw [List.length_cons, List.length_cons, HdRs.len r2]
theorem dsOf_at : ∀ {hs : List Hd} {ds : List D}, dsOf hs ρ = .ok ds → ds.length = hs.length ∧ ∀ (j : Nat) h d, hs[j]? = some h → ds[j]? = some d → h.d ρ = .ok d
  | [], _, e => by cases e; exact ⟨rfl, fun j h d e => by simp at e⟩
  | h :: hs, _, e => by
    obtain ⟨d, e1, e⟩ := R.ok_of e
    obtain ⟨ds, e2, e⟩ := R.ok_of e
    cases e
    obtain ⟨l, g⟩ := dsOf_at e2
    refine ⟨by rw [List.length_cons, List.length_cons, l], fun j h' d' a b => ?_⟩
    cases j with
    | zero => simp at a b; subst a b; exact R.nox_of e1
    | succ j => exact g j h' d' (by simpa using a) (by simpa using b)
theorem placed_at : ∀ {hs : List Hd} {k : Nat}, placed pr k hs = true → ∀ (j : Nat) h, hs[j]? = some h → (∃ i, h = .ow i ∧ (k + j, i) ∈ pr) ∨ ((∀ i, h ≠ .ow i) ∧ (k + j) ∉ pr.map (·.1))
  | [], _, _, j, h, e => by simp at e
  | h0 :: hs, k, p, j, h, e => by
    cases j with
    | zero =>
      simp at e; subst e
      cases h0 with
      | ow i =>
        unfold placed at p
        rw [Bool.and_eq_true] at p
        exact .inl ⟨i, rfl, by simpa using p.1⟩
      | fr d =>
        unfold placed at p
        rw [Bool.and_eq_true] at p
        refine .inr ⟨fun i z => (by cases z), fun z => ?_⟩
        obtain ⟨q, hq, e⟩ := List.mem_map.mp z
        have := p.1
        simp only [Bool.not_eq_true', List.any_eq_false] at this
        exact this q hq (by simpa using e)
      | vl d =>
        unfold placed at p
        rw [Bool.and_eq_true] at p
        refine .inr ⟨fun i z => (by cases z), fun z => ?_⟩
        obtain ⟨q, hq, e⟩ := List.mem_map.mp z
        have := p.1
        simp only [Bool.not_eq_true', List.any_eq_false] at this
        exact this q hq (by simpa using e)
    | succ j =>
      have p2 : placed pr (k + 1) hs = true := by
        cases h0 <;> (unfold placed at p; rw [Bool.and_eq_true] at p; exact p.2)
      have := placed_at p2 j h (by simpa using e)
      rwa [show k + 1 + j = k + (j + 1) by omega] at this
end
theorem nodup_inj {pr : List (Nat × Nat)} (hn : (pr.map (·.2)).Nodup) {j j' i : Nat} (a : (j, i) ∈ pr) (b : (j', i) ∈ pr) : j = j' := by
  induction pr with
  | nil => cases a
  | cons p pr ih =>
    simp only [List.map_cons, List.nodup_cons] at hn
    rcases List.mem_cons.mp a with a | a <;> rcases List.mem_cons.mp b with b | b
    · rw [← a] at b; cases b; rfl
    · exact absurd (List.mem_map.mpr ⟨_, b, by rw [← a]⟩) hn.1
    · exact absurd (List.mem_map.mpr ⟨_, a, by rw [← b]⟩) hn.1
    · exact ih hn.2 a b
theorem nodup_inj1 {pr : List (Nat × Nat)} (hn : (pr.map (·.1)).Nodup) {j i i' : Nat} (a : (j, i) ∈ pr) (b : (j, i') ∈ pr) : i = i' := by
  induction pr with
  | nil => cases a
  | cons p pr ih =>
    simp only [List.map_cons, List.nodup_cons] at hn
    rcases List.mem_cons.mp a with a | a <;> rcases List.mem_cons.mp b with b | b
    · rw [← a] at b; cases b; rfl
    · exact absurd (List.mem_map.mpr ⟨_, b, by rw [← a]⟩) hn.1
    · exact absurd (List.mem_map.mpr ⟨_, a, by rw [← b]⟩) hn.1
    · exact ih hn.2 a b
section
variable {X : Cx} {P0 : Pr} {O Oc W U : List Nat} {E : EK} {XE : XK} {a b c e : Expr} {es : List Expr} {ma mb mc : EM} {ms : AM} {pos : Pos} {k np : Nat} {name : Str} {pr : List (Nat × Nat)}
theorem tM_callIO {g : Fn} (hE : ∀ c ds H, E c ds H → exE X.mg XE c ds H) (hO : O = pr.map (·.1)) (hn : (pr.map (·.2)).Nodup) (hn1 : (pr.map (·.1)).Nodup) (hw : ∀ p ∈ pr, p.2 ∈ W) (hl : ALen ms np) (σ : St) (H : Hp) (Q : VK) (h : tM X.K P0 Oc W E (cCallIO pr g ms) σ H Q) :
    tCall (spD X.K X.mg np O g) [] XE (tMs X.K P0 Oc W E ms) σ H Q := by
  obtain ⟨ρ, S, h⟩ := h
  refine ⟨ρ, S, ?_⟩
  cases em : ms ρ with
  | stk => unfold cCallIO at h; rw [em] at h; exact h.elim
  | er c ds => unfold cCallIO at h; rw [em] at h; exact h
  | ok p =>
    obtain ⟨hs, ρ1⟩ := p
    unfold cCallIO at h
    rw [em] at h
    intro vs H1 S1 k1 r1
    have q : Res E W σ H (if placed pr 0 hs = true then (do
      let ds ← (dsOf hs ρ1).nox
      let (h, os) ← g ds
      match h with
      | .ow _ => .stk
      | h => pure (h, putOuts os pr ρ1)) else .stk) _ := h
    have hp : placed pr 0 hs = true := by
      cases hp : placed pr 0 hs with
      | true => rfl
      | false => rw [hp] at q; exact q.elim
    rw [if_pos hp] at q
    obtain ⟨ds, e1, q⟩ := q.of_nox
    have pl := placed_at hp
    simp only [Nat.zero_add] at pl
    obtain ⟨dl, dg⟩ := dsOf_at e1
    have lv : vs.length = np := by rw [HdRs.len r1]; exact hl ρ hs ρ1 em
    have ld : ds.length = np := by rw [dl]; exact hl ρ hs ρ1 em
    rw [List.append_nil]
    -- the callee's own objects are own here
    have own : ∀ {j : Nat} {v : V}, j ∈ O → (vs.map some)[j]? = some (some v) → ∃ i, (j, i) ∈ pr ∧ i ∈ Oc ∧ i ∈ W ∧ σ[i]? = some (some v) ∧ hs[j]? = some (.ow i) := fun {j v} hj e => by
      obtain ⟨h, e2, r⟩ := HdRs.at r1 (map_get.mp e)
      rcases pl j h e2 with ⟨i, rfl, hi⟩ | ⟨_, hn'⟩
      · exact ⟨i, hi, r.1, hw _ hi, r.2, e2⟩
      · rw [hO] at hj; exact absurd hj hn'
    have oa : ∀ b, OA O (vs.map some) b → OA W σ b := fun b ⟨j, hj, e⟩ => let ⟨i, _, _, h2, h3, _⟩ := own hj e; ⟨i, h2, h3⟩
    have oaO : ∀ b, OA O (vs.map some) b → OA Oc σ b := fun b z => S1.oaw (oa b z)
    generalize hP1 : (fun b => FA P0 Oc σ b ∧ ¬ OA O (vs.map some) b : Pr) = P1
    have fa1 : ∀ b, FA P1 O (vs.map some) b → FA P0 Oc σ b := fun b z => by
      subst hP1
      rcases z with z | z
      · exact z.1
      · exact .inr (oaO b z)
    have fa2 : ∀ b, FA P0 Oc σ b → FA P1 O (vs.map some) b := fun b z => by
      subst hP1
      by_cases y : OA O (vs.map some) b
      · exact .inr y
      · exact .inl ⟨z, y⟩
    have S2 : Sim X.K P1 O [] (ds.map some) (vs.map some) H1 := by
      refine ⟨fun _ z => (nomatch z), by simp [lv, ld], fun b z => S1.dom b (fa1 b z), fun j d e nj => ?_, fun j d e hj => ?_, fun x y a hx hy e1 e2 => ?_, fun a z y => by subst hP1; exact y.2 z⟩
      · have e := map_get.mp e
        have hj : j < vs.length := by rw [lv, ← ld]; exact (List.getElem?_eq_some_iff.mp e).1
        have ev : vs[j]? = some vs[j] := List.getElem?_eq_getElem hj
        obtain ⟨h, e2, r⟩ := HdRs.at r1 ev
        refine ⟨vs[j], map_get.mpr ev, ?_⟩
        have hd := dg j h d e2 e
        rcases pl j h e2 with ⟨i, rfl, hi⟩ | ⟨hne, _⟩
        · exact absurd (by rw [hO]; exact List.mem_map.mpr ⟨_, hi, rfl⟩) nj
        · cases h with
          | fr d' => cases hd; exact r.1.less S1.dom fa1
          | vl d' => cases hd; exact Rep.less S1.dom r fa1
          | ow i => exact absurd rfl (hne i)
      · have e := map_get.mp e
        have hj' : j < vs.length := by rw [lv, ← ld]; exact (List.getElem?_eq_some_iff.mp e).1
        have ev : (vs.map some)[j]? = some (some vs[j]) := map_get.mpr (List.getElem?_eq_getElem hj')
        obtain ⟨i, h1, h2, h3, h4, h5⟩ := own hj ev
        have hd := look_some (dg j _ d h5 e)
        obtain ⟨w, h6, h7⟩ := S1.own i d hd h2
        rw [h4] at h6; cases h6
        exact ⟨_, ev, h7.less S1.dom fa1⟩
      · obtain ⟨i1, a1, b1, c1, d1, f1⟩ := own hx e1
        obtain ⟨i2, a2, b2, c2, d2, f2⟩ := own hy e2
        have ei := S1.sep i1 i2 a b1 b2 d1 d2
        subst ei
        have := nodup_inj hn a1 a2
        exact this
    refine ⟨lv, ds, P1, S2, ld, ?_⟩
    have q := q.keep k1
    cases eg : g ds with
    | stk => rw [eg] at q; exact q.elim
    | er c xs =>
      rw [eg] at q
      exact fun H' kp => hE c xs H' (q H' ⟨fun b o e n => kp.keep b o e fun z => n (oa b z), kp.some⟩)
    | ok p =>
      obtain ⟨hd, os⟩ := p
      rw [eg] at q
      intro v H2 k2 S3 r2
      have S3 : Sim X.K P1 O [] os (vs.map some) H2 := S3
      have k3 : Keep W σ H1 H2 := ⟨fun b o e n => k2.keep b o e fun z => n (oa b z), k2.some⟩
      have slot : ∀ {j i : Nat}, (j, i) ∈ pr → i ∈ Oc := fun {j i} z => S1.sub i (hw _ z)
      have S4 : Sim X.K P0 Oc W (putOuts os pr ρ1) σ H2 := by
        refine ⟨S1.sub, by rw [putOuts_len]; exact S1.len, fun b z => S3.dom b (fa2 b z), fun i d e n => ?_, fun i d e n => ?_, S1.sep, S1.sep0⟩
        · have ni : i ∉ pr.map (·.2) := fun z => by
            obtain ⟨⟨j, i'⟩, hq, z⟩ := List.mem_map.mp z
            cases z
            exact n (slot hq)
          rw [putOuts_ne ni] at e
          obtain ⟨v, h1, h2⟩ := S1.val i d e n
          exact ⟨v, h1, h2.of_same S1.dom fun b o e n => k2.keep b o e fun z => n (.inr (oaO b z))⟩
        · by_cases ni : i ∈ pr.map (·.2)
          · obtain ⟨⟨j, i'⟩, hq, z⟩ := List.mem_map.mp ni
            cases z
            have eo := putOuts_at hn hq e
            have hj : j ∈ O := by rw [hO]; exact List.mem_map.mpr ⟨_, hq, rfl⟩
            obtain ⟨w, h1, h2⟩ := S3.own j d eo hj
            obtain ⟨i2, a2, b2, c2, d2, f2⟩ := own hj h1
            have : i2 = i' := by
              have := nodup_inj1 hn1 a2 hq
              exact this
            subst this
            exact ⟨w, d2, h2.less S3.dom fa2⟩
          · rw [putOuts_ne ni] at e
            obtain ⟨w, h1, h2⟩ := S1.own i d e n
            refine ⟨w, h1, h2.mono S1.dom (fun b o e n => k2.keep b o e fun z => n (.inr (oaO b z))) (fun _ z => .inl z) fun a o e1 e2 => k2.keep a o e2 fun ⟨j, hj, ej⟩ => ?_⟩
            subst e1
            obtain ⟨i2, a2, b2, c2, d2, f2⟩ := own hj ej
            have := S1.sep i i2 a n b2 h1 d2
            subst this
            exact ni (List.mem_map.mpr ⟨_, a2, rfl⟩)
      cases hd with
      | ow j => exact q.elim
      | fr d => exact q v H2 S4 (k1.trans k3) ⟨r2.1.less S3.dom fa2, fun m a e => Classical.byContradiction fun z => k1.some a z (r2.2 m a e)⟩
      | vl d => exact q v H2 S4 (k1.trans k3) (Rep.less S3.dom r2 fa2)
theorem ce_callIO {g : Fn} {p : Pos} (G : Glo X.prog X.w X.K X.mg X.base name k np O g) (pr : List (Nat × Nat)) (o : Out2 X E XE) (hr : Room k X.A) (ha : CA X P0 Oc W E (e :: es) ms) (hl : ALen ms np) (hO : O = pr.map (·.1) := by rfl) (hn : (pr.map (·.2)).Nodup := by decide) (hn1 : (pr.map (·.1)).Nodup := by decide) (hw : ∀ p ∈ pr, p.2 ∈ W := by decide) (hg : Gl X name := by rfl) (hdb : (name == ("__debug__" : Str)) = false := by decide)
    (he : starEach (e :: es) X.env = (false, eval e X.env) :: starEach es X.env := by rfl) (hpl : (backTo pos (starEach es X.env)).any (·.1) = false := by rfl) : CEx X P0 Oc W E (.Call (.Name name p) (e :: es) [] pos) (cCallIO pr g ms) := by
  obtain ⟨f, fd, ps, hm, hk, hb, _, F⟩ := G.ex
  exact PE.imp (pe_call F hr hg hm hk hb .nil o.pass ha hdb he hpl) fun σ H Q h => tM_callIO o.ex hO hn hn1 hw hl σ H Q h
end
end Y

set_option Elab.async false
set_option linter.all false
set_option maxRecDepth 100000
namespace Y
open PySem PySem.Spec PyProof.Rows L2

def fnP (np n : Nat) (m : SM) : List D → R Hd := fun ds => do
  let (f, ρ) ← m (ds.map some ++ List.replicate (n - np) none)
  (retH np f ρ).nox
section
variable {P : Program} {w : World} {K : PySem.W.Frag} {mg : Str → Option Value} {base : Heap} {name : Str} {k np n : Nat} {O : List Nat}
theorem Glo.imp {g g' : Fn} (G : Glo P w K mg base name k np O g) (h : ∀ vs H Q E, spD K mg np O g' vs H Q E → spD K mg np O g vs H Q E) : Glo P w K mg base name k np O g' :=
  let ⟨f, fd, ps, h1, h2, h3, h4, F⟩ := G.ex
  ⟨f, fd, ps, h1, h2, h3, h4, F.imp h⟩
theorem Glo.mono {g : Fn} {k' : Nat} (G : Glo P w K mg base name k np O g) (h : k ≤ k' := by decide) : Glo P w K mg base name k' np O g :=
  let ⟨f, fd, ps, h1, h2, h3, h4, F⟩ := G.ex
  ⟨f, fd, ps, h1, h2, h3, h4, F.mono h⟩
theorem spD_pure {m : SM} {vs : List V} {H : Hp} {Q : VK} {E : XK} : spD K mg np [] (pureF (fnP np n m)) vs H Q E → spD K mg np [] (fnD np n [] m) vs H Q E := fun ⟨hl, ds, P0, S, hd, h⟩ => ⟨hl, ds, P0, S, hd, by
  unfold pureF fnP at h
  unfold fnD
  cases em : m (ds.map some ++ List.replicate (n - np) none) with
  | stk => rw [em] at h; exact h
  | er c xs => rw [em] at h; exact h
  | ok p =>
    obtain ⟨fl, ρ⟩ := p
    rw [em] at h
    cases er : (retH np fl ρ).nox with
    | stk => exact (show Res (exE mg E) [] (vs.map some) H ((retH np fl ρ).nox >>= fun h => Y.R.ok (h, outs [] np ρ)) _ by
        rw [er]
        have h : Res (exE mg E) [] (vs.map some) H ((retH np fl ρ).nox >>= fun h => Y.R.ok (h, [])) _ := h
        rw [er] at h
        exact h)
    | er c xs => cases e2 : retH np fl ρ <;> rw [e2] at er <;> cases er
    | ok hd' =>
      refine (show Res (exE mg E) [] (vs.map some) H ((retH np fl ρ).nox >>= fun h => Y.R.ok (h, outs [] np ρ)) _ from ?_)
      have h : Res (exE mg E) [] (vs.map some) H ((retH np fl ρ).nox >>= fun h => Y.R.ok (h, [])) _ := h
      rw [er] at h ⊢
      exact fun v H' kp S' r => h v H' kp (S'.move (Nat.zero_le _) (fun _ _ => rfl) (fun _ z => nomatch z) fun i d e => by simp at e) r⟩
theorem Glo.pure {m : SM} (G : Glo P w K mg base name k np [] (fnD np n [] m)) : Glo P w K mg base name k np [] (pureF (fnP np n m)) := G.imp fun vs H Q E h => spD_pure h
/-- a def of the text -/
structure Def (K : PySem.W.Frag) (mg : Str → Option Value) (x : Str) (st : Stmt) : Prop where
  ex : ∃ f fd, mg x = some (.ref f) ∧ Fun K x x st f fd
theorem glo_mk {x : Str} {st : Stmt} {N ps : List Str} {Oc W U : List Nat} {m : SM} (F : Def K mg x st) (S : FnScope N ps (defScope st))
    (hb : ∀ (f : Addr) (cdv : Value) (A : Around) (outer : List PySem.Env) (s : Shared) (H : Hp) (E : XK) (P0 : Pr), Room k (A.deeper (envOfC x (defScope st) s.heap.objs.size f cdv)) → CSs (cxOf (L2N.CX P w) P w K mg base N x (defScope st) f cdv A outer s H E) P0 Oc W U (exE mg E) (defBody st) m)
    (bi : ∀ (kV doc pm : Value) (an : Option Addr) (cdv ct : Value) (us : List Value), us.length = ps.length → bindArgs (PySem.W.fnOf x x (defArgs st) (defBody st) (defScope st) .none kV doc pm an cdv ct) ⟨us, []⟩ = Pure.pure (ps.zip us))
    (hp : ps.length = np := by rfl) (hn : N.length = n := by rfl) (hO : O = Oc.filter (fun i => decide (i < np)) := by rfl) (hW : ∀ i ∈ W, i ∈ Oc := by decide) (hU : ∀ i ∈ O, i ∈ U := by decide) : Glo P w K mg base x (k + 1) np O (fnD np n O m) := by
  obtain ⟨f, fd, hm, F⟩ := F.ex
  exact ⟨f, fd, ps, hm, F.kp, F.binds bi, hp, fnD_ok F S hp hn (fun i => by rw [hO, List.mem_filter, decide_eq_true_eq]) hW hU fun cdv A outer s H E P0 hr => hb f cdv A outer s H E P0 hr⟩
theorem law_fn {st : Stmt} {f : Addr} {fd : FuncData} {N : List Str} {Oc W : List Nat} {m : SM} (F : Fun K "law" "law" st f fd) (S : FnScope N ["script"] (defScope st))
    (hb : ∀ (f : Addr) (cdv : Value) (A : Around) (outer : List PySem.Env) (s : Shared) (H : Hp) (E : XK) (P0 : Pr), Room k (A.deeper (envOfC "law" (defScope st) s.heap.objs.size f cdv)) → CSs (cxOf (L2N.CX P w) P w K mg base N "law" (defScope st) f cdv A outer s H E) P0 Oc W [] (exE mg E) (defBody st) m)
    (hn : N.length = n := by rfl) (hO : [] = Oc.filter (fun i => decide (i < 1)) := by rfl) (hW : ∀ i ∈ W, i ∈ Oc := by decide) : FnOk P w K mg base (L2N.CX P w) (k + 1) f fd ["script"] (spD K mg 1 [] (pureF (fnP 1 n m))) :=
  (fnD_ok (O := []) F S rfl hn (fun i => by rw [hO, List.mem_filter, decide_eq_true_eq]; exact Iff.rfl) hW (fun _ h => by simp at h) fun cdv A outer s H E P0 hr => hb f cdv A outer s H E P0 hr).imp fun vs H Q E h => spD_pure h
theorem out2_body {N : List Str} {x : Str} {sc : Scope} {f : Addr} {cdv : Value} {A : Around} {outer : List PySem.Env} {s : Shared} {H : Hp} {E : XK} : Out2 (cxOf (L2N.CX P w) P w K mg base N x sc f cdv A outer s H E) (exE mg E) E :=
  ⟨L2N.passes_call (L2N.takes_of rfl rfl rfl rfl) (fun _ _ _ _ h => h), fun c ds H h => h⟩
theorem cx_none {H : Hp} {s : Shared} {e : Value} {s' : Shared} (h : L2N.CX P w [] H s (fun _ _ _ => False) e s') : False := by
  obtain ⟨_, _, _, _, _, _, _, _, _, _, _, _, z⟩ := h
  exact z.elim
end
end Y

set_option Elab.async false
set_option linter.all false
set_option maxRecDepth 100000
namespace Y
open PySem PySem.Spec PyProof.Rows L2
def tyN : D → String
  | .non => "NoneType" | .bl _ => "bool" | .int _ => "int" | .str _ => "str" | .tup _ => "tuple" | .lst _ => "list" | .arg _ => "list" | .dik _ _ => "dict" | .dit _ _ => "dict" | .ftu _ => "tuple" | .tab _ _ => "NoneType"
def isInt : D → Bool
  | .int _ => true | .bl _ => true | _ => false
def isBl : D → Bool
  | .bl _ => true | _ => false
def isTup : D → Bool
  | .tup _ => true | .ftu _ => true | _ => false
abbrev IsK (T : String) (f : D → Bool) : Prop := ∀ d, kitB (tyN d) T = some (f d)
theorem isk_int : IsK "int" isInt := fun d => by cases d <;> simp only [tyN, isInt] <;> decide +kernel
theorem isk_bool : IsK "bool" isBl := fun d => by cases d <;> simp only [tyN, isBl] <;> decide +kernel
theorem isk_tuple : IsK "tuple" isTup := fun d => by cases d <;> simp only [tyN, isTup] <;> decide +kernel
def noDit : D → Bool
  | .dit _ _ => false | .ftu _ => false | .tab _ _ => false | _ => true
def isFt : D → Bool
  | .ftu _ => true | _ => false
theorem tyX_of {K : PySem.W.Frag} {H : Hp} {P : Pr} {d : D} {v : V} (hd : (noDit d || isFt d) = true) (h : RepW K H d P v) : TyX K H v (.type (tyN d)) := by
  cases d with
  | non => have h : Rep K H .non P v := h; unfold Rep at h; subst h; exact .base .non
  | bl b => have h : Rep K H (.bl b) P v := h; unfold Rep at h; subst h; exact .base (.bl b)
  | int i => have h : Rep K H (.int i) P v := h; unfold Rep at h; subst h; exact .base (.int i)
  | str x => have h : Rep K H (.str x) P v := h; unfold Rep at h; subst h; exact .base (.str x)
  | tup ds =>
    have h : Rep K H (.tup ds) P v := h
    unfold Rep at h
    obtain ⟨a, vs, rfl, h1, _⟩ := h
    exact .base (.tup h1)
  | lst ds =>
    obtain ⟨a, vs, rfl, h1, _⟩ := h
    exact .base (.lst h1)
  | arg ns =>
    obtain ⟨a, rfl, h1⟩ := h
    rcases h1 with (h1 | ⟨o, h1⟩) | ⟨ob, its, n, h1, h2, _⟩
    · exact .base (.lst h1)
    · exact .base (.frz h1)
    · exact .kList h1 h2
  | dik ks ds =>
    obtain ⟨a, vs, rfl, _, h1, _⟩ := h
    rcases h1 with h1 | ⟨o, h1⟩
    · exact .base (.dK h1)
    · exact .fDict h1
  | dit ks ds => cases hd
  | tab _ _ => cases hd
  | ftu ds =>
    have h : Rep K H (.ftu ds) P v := h
    unfold Rep at h
    obtain ⟨a, vs, o, rfl, h1, _⟩ := h
    exact .fTuple h1
def cIsi (f : D → Bool) (m : EM) : EM := fun ρ => do
  let (h, ρ1) ← m ρ
  let d ← (h.d ρ1).nox
  if (noDit d || isFt d) = true then pure (.fr (.bl (f d)), ρ1) else .stk
section
variable {X : Cx} {P0 : Pr} {O W : List Nat} {E : EK} {a : Expr} {ma : EM} {pos : Pos}
theorem ce_isi {T : String} {x : Str} {f : D → Bool} {p q : Pos} (hk : IsK T f) (hm : X.mg "isinstance" = none) (hm2 : X.mg x = none) (h : CEx X P0 O W E a ma) (hv : bootBuiltins "isinstance" = some (.builtin "isinstance")) (hv2 : bootBuiltins x = some (.type T))
    (hg : Gl X "isinstance" := by rfl) (hg2 : Gl X x := by rfl) (hn : x ≠ "__name__" := by decide) (hdb : (x == ("__debug__" : Str)) = false := by decide)
    (he : starEach [a, .Name x q] X.env = (false, eval a X.env) :: starEach [.Name x q] X.env := by rfl) (hpl : (backTo pos (starEach [.Name x q] X.env)).any (·.1) = false := by rfl) (he2 : starEach [.Name x q] X.env = (false, eval (.Name x q) X.env) :: starEach [] X.env := by rfl) : CEx X P0 O W E (.Call (.Name "isinstance" p) [a, .Name x q] [] pos) (cIsi f ma) :=
  PE.imp (pe_callB call_isi hg hm hv (pa_cons h (pa_cons (pe_bltn hg2 hm2 hv2 (v := .ty T) rfl hn hdb) pa_nil he2) he) (by decide) (by decide) he hpl) fun σ H Q ⟨ρ, S, h⟩ => by
    refine ⟨ρ, S, h.of_bind.mono fun ⟨hd, ρ1⟩ q v H1 S1 k1 r1 => ?_⟩
    obtain ⟨d, e1, q⟩ := q.of_nox
    by_cases c : (noDit d || isFt d) = true
    · rw [if_pos c] at q
      exact ⟨v, .ty T, _, _, f d, rfl, .ty T, tyX_of c (HdR.d S1 r1 e1), kit_ty (hk d), (out_of (K := X.K) S1 k1 q).bl⟩
    · rw [if_neg c] at q
      exact q.elim
end
end Y

set_option Elab.async false
set_option linter.all false
set_option maxRecDepth 100000
namespace Y
open PySem PySem.Spec PyProof.Rows L2
def sExpr (m : EM) : SM := fun ρ => do
  let (_, ρ1) ← m ρ
  pure (.nx, ρ1)
section
variable {K : PySem.W.Frag} {X : Cx} {P0 : Pr} {O W U : List Nat} {E : EK} {e : Expr} {ma : EM} {pos : Pos}
theorem cs_expr (h : CEx X P0 O W E e ma) (hs : swapsWith e none pos.line X.env = pure false := by rfl) : CS X P0 O W U E (.Expr e pos) (sExpr ma) := PS.imp (ps_expr h hs) fun D σ H ⟨ρ, S, h⟩ =>
  ⟨ρ, S, (h.of_bind.down S.sub).mono fun ⟨hd, ρ1⟩ q v H1 S1 k1 r1 => q σ H1 S1 (Tr.of S.sub k1) rfl⟩
/-- what the top binds -/
theorem def_mk {h : Heap} {mg : Str → Option Value} {x : Str} {st : Stmt} {f : Addr} {od an : Option Addr} {sl : Array (Option Value)} {oc kV dc pm cd ct : Value} (Z : K.In h) (G : h.Ns mainGlobals mg)
    (a : PySem.W.nsIn K mainGlobals x = some (some (.ref f))) (l : K.lookup f = some ⟨oc, od, .func (PySem.W.fnOf x x (defArgs st) (defBody st) (defScope st) .none kV dc pm an cd ct), sl⟩) (c : PySem.W.codeIn K cd x = true) (k : PySem.W.keepIn K (.ref f) = true) : Def K mg x st :=
  ⟨⟨f, _, PySem.W.mg_of Z G a, fun_mk l c k⟩⟩
end
theorem bo_len : bootBuiltins "len" = some (.builtin "len") := by decide +kernel
theorem bo_max : bootBuiltins "max" = some (.builtin "max") := by decide +kernel
theorem bo_min : bootBuiltins "min" = some (.builtin "min") := by decide +kernel
theorem bo_divmod : bootBuiltins "divmod" = some (.builtin "divmod") := by decide +kernel
theorem bo_sum : bootBuiltins "sum" = some (.builtin "sum") := by decide +kernel
theorem bo_all : bootBuiltins "all" = some (.builtin "all") := by decide +kernel
theorem bo_any : bootBuiltins "any" = some (.builtin "any") := by decide +kernel
theorem bo_isinstance : bootBuiltins "isinstance" = some (.builtin "isinstance") := by decide +kernel
theorem bo_sorted : bootBuiltins "sorted" = some (.builtin "sorted") := by decide +kernel
theorem bo_tuple : bootBuiltins "tuple" = some (.type "tuple") := by decide +kernel
theorem bo_bool : bootBuiltins "bool" = some (.type "bool") := by decide +kernel
theorem bo_int : bootBuiltins "int" = some (.type "int") := by decide +kernel
theorem bo_set : bootBuiltins "set" = some (.type "set") := by decide +kernel
theorem _root_.L2.Room.units65 {k : Nat} {A : Around} (r : Room k A) : A.units + 65 < cLine := by have := r.un; omega
end Y

set_option Elab.async false
set_option linter.all false
set_option maxRecDepth 100000
namespace Y
open PySem PySem.Spec PyProof.Rows L2
abbrev Good (g : List D → R Hd) (n : Nat) : Prop := ∀ ns : List Int, ns.length ≤ n → (∀ z ∈ ns, Builtin.Int.intBits z ≤ 1048576) → ∃ b, g [.arg ns] = .ok b ∧ (b = .fr (.bl true) ∨ b = .vl (.bl true))
def spL (K : PySem.W.Frag) (n : Nat) : Sp := fun vs H Q E => ∃ (a : Addr) (ns : List Int), vs = [.ref a] ∧ SqL K H a (ns.map V.int) ∧ ns.length ≤ n ∧ (∀ z ∈ ns, Builtin.Int.intBits z ≤ 1048576) ∧ ∀ H', Q (.bl true) H'
theorem spL_to {K : PySem.W.Frag} {mg : Str → Option Value} {g : List D → R Hd} {n : Nat} (hg : Good g n) {vs : List V} {H : Hp} {Q : VK} {E : XK} : spL K n vs H Q E → spD K mg 1 [] (pureF g) vs H Q E := fun ⟨a, ns, e, hS, h1, h2, q⟩ => by
  subst e
  obtain ⟨b, e, hb⟩ := hg ns h1 h2
  refine ⟨rfl, [.arg ns], fun _ => False, sim_args (fun b z => z.elim) (Reps.cons ?_ Reps.nil), rfl, ?_⟩
  · unfold Rep
    refine ⟨a, rfl, ?_⟩
    rcases hS with hS | hS
    · exact .inl ⟨fun z => z, hS⟩
    · exact .inr (.inr hS)
  · unfold pureF
    rw [e]
    intro v H' _ _ r
    have : v = .bl true := by
      rcases hb with rfl | rfl
      · have r := r.1; unfold Rep at r; exact r
      · have r : Rep K H' (.bl true) (FA (fun _ => False) [] ([V.ref a].map some)) v := r; unfold Rep at r; exact r
    rw [this]
    exact q H'
/-- the law as the head wants it -/
theorem law_all {P : Program} {w : World} {K : PySem.W.Frag} {mg : Str → Option Value} {h : Heap} {fa f2 : Addr} {st : Stmt} {k n : Nat} {g : List D → R Hd} (Z : K.In h) (G : h.Ns mainGlobals mg) (hfa : mg "law" = some (.ref fa)) (hg : Good g n)
    {od an : Option Addr} {sl : Array (Option Value)} {oc kV dc pm cd ct : Value}
    (ok : ∀ (base : Heap) {f : Addr} {fd : FuncData}, Fun K "law" "law" st f fd → FnOk P w K mg base (L2N.CX P w) k f fd ["script"] (spD K mg 1 [] (pureF g)))
    (hb : ∀ (kV dc pm : Value) (an : Option Addr) (cd ct : Value) (s : Shared) (u : Value), BindsTo s (PySem.W.fnOf "law" "law" (defArgs st) (defBody st) (defScope st) .none kV dc pm an cd ct) ⟨[u], []⟩ [("script", u)])
    (a : PySem.W.nsIn K mainGlobals "law" = some (some (.ref f2))) (l : K.lookup f2 = some ⟨oc, od, .func (PySem.W.fnOf "law" "law" (defArgs st) (defBody st) (defScope st) .none kV dc pm an cd ct), sl⟩) (c : PySem.W.codeIn K cd "law" = true) (kp : PySem.W.keepIn K (.ref f2) = true) :
    ∃ fd : FuncData, (∀ (s : Shared) (u : Value), BindsTo s fd ⟨[u], []⟩ [("script", u)]) ∧ ∀ base : Heap, K.In base → base.Ns mainGlobals mg → FnOk P w K mg base (L2N.CX P w) k fa fd ["script"] (spL K n) := by
  have e := hfa.symm.trans (PySem.W.mg_of Z G a)
  cases e
  exact ⟨_, fun s u => hb kV dc pm an cd ct s u, fun base _ _ => (ok base (fun_mk l c kp)).imp fun vs H Q E h => spL_to hg h⟩
end Y

set_option Elab.async false
set_option linter.all false
set_option maxRecDepth 100000
namespace Y
open PySem PySem.Spec PyProof.Rows L2
variable {ρ : Env}
@[simp] theorem e_look {i : Nat} : look i ρ = (match ρ[i]? with | some (some d) => .ok d | _ => .stk) := id rfl
@[simp] theorem e_var {i : Nat} : cVar i ρ = ((look i ρ).nox >>= fun d => R.ok (.vl d, ρ)) := id rfl
@[simp] theorem e_own {i : Nat} : cOwn i ρ = ((look i ρ).nox >>= fun _ => R.ok (.ow i, ρ)) := id rfl
@[simp] theorem e_c {d : D} : cC d ρ = .ok (.fr d, ρ) := id rfl
@[simp] theorem e_hfr {d : D} : Hd.d (.fr d) ρ = .ok d := id rfl
@[simp] theorem e_hvl {d : D} : Hd.d (.vl d) ρ = .ok d := id rfl
@[simp] theorem e_how {i : Nat} : Hd.d (.ow i) ρ = look i ρ := id rfl
@[simp] theorem e_vfr {d : D} : Hd.v (.fr d) = .ok d := id rfl
@[simp] theorem e_vvl {d : D} : Hd.v (.vl d) = .ok d := id rfl
@[simp] theorem e_vow {i : Nat} : Hd.v (.ow i) = .stk := id rfl
@[simp] theorem e_op {f : D → D → R D} {a b : EM} : cOp f a b ρ = (a ρ >>= fun p => b p.2 >>= fun q => (p.1.d q.2).nox >>= fun x => (q.1.d q.2).nox >>= fun y => (f x y).nox >>= fun z => R.ok (.fr z, q.2)) := id rfl
@[simp] theorem e_tru {m : EM} : cTru m ρ = (m ρ >>= fun p => (p.1.d p.2).nox >>= fun d => (truD d).nox >>= fun b => R.ok (b, p.2)) := id rfl
@[simp] theorem e_bl {m : EM} : cBl m ρ = (m ρ >>= fun p => p.1.v.nox >>= fun d => match d with | .bl b => R.ok (b, p.2) | _ => .stk) := id rfl
@[simp] theorem e_notT {m : BM} : cNotT m ρ = (m ρ >>= fun p => R.ok (!p.1, p.2)) := id rfl
@[simp] theorem e_orT {a b : BM} : cOrT a b ρ = (a ρ >>= fun p => if p.1 = true then R.ok (true, p.2) else b p.2) := id rfl
@[simp] theorem e_nil : cNil ρ = .ok ([], ρ) := id rfl
@[simp] theorem e_cons {a : EM} {as : AM} : cCons a as ρ = (a ρ >>= fun p => as p.2 >>= fun q => R.ok (p.1 :: q.1, q.2)) := id rfl
@[simp] theorem e_vs0 : vsOf [] = .ok [] := id rfl
@[simp] theorem e_vs1 {h : Hd} {hs : List Hd} : vsOf (h :: hs) = (h.v.nox >>= fun d => vsOf hs >>= fun ds => R.ok (d :: ds)) := id rfl
@[simp] theorem e_ds0 : dsOf [] ρ = .ok [] := id rfl
@[simp] theorem e_ds1 {h : Hd} {hs : List Hd} : dsOf (h :: hs) ρ = ((h.d ρ).nox >>= fun d => dsOf hs ρ >>= fun ds => R.ok (d :: ds)) := id rfl
@[simp] theorem e_and {a b : EM} : cAnd a b ρ = (a ρ >>= fun p => (p.1.d p.2).nox >>= fun d => (truD d).nox >>= fun k => if k = true then b p.2 else R.ok (p.1, p.2)) := id rfl
@[simp] theorem e_not {m : EM} : cNot m ρ = (m ρ >>= fun p => (p.1.d p.2).nox >>= fun d => (truD d).nox >>= fun k => R.ok (.fr (.bl (!k)), p.2)) := id rfl
@[simp] theorem e_chain {f g : D → D → R D} {a b c : EM} : cChain f g a b c ρ = (a ρ >>= fun p => b p.2 >>= fun q => (p.1.d q.2).nox >>= fun x => (q.1.d q.2).nox >>= fun y => (f x y).nox >>= fun z => match z with | .bl k => if k = true then (c q.2 >>= fun r => (q.1.d r.2).nox >>= fun y => (r.1.d r.2).nox >>= fun w => (g y w).nox >>= fun z => R.ok (.fr z, r.2)) else .ok (.fr (.bl false), q.2) | _ => .stk) := id rfl
@[simp] theorem e_tup {m : AM} : cTup m ρ = (m ρ >>= fun p => (vsOf p.1).nox >>= fun ds => if szOk ds.length = true then R.ok (.fr (.tup ds), p.2) else .stk) := id rfl
@[simp] theorem e_lst {m : AM} : cLst m ρ = (m ρ >>= fun p => (vsOf p.1).nox >>= fun ds => if szOk ds.length = true then R.ok (.fr (.lst ds), p.2) else .stk) := id rfl
@[simp] theorem e_call {f : List D → R D} {m : AM} : cCall f m ρ = (m ρ >>= fun p => (dsOf p.1 p.2).nox >>= fun ds => (f ds).nox >>= fun z => R.ok (.fr z, p.2)) := id rfl
@[simp] theorem e_ix {a b : EM} : cIx a b ρ = (a ρ >>= fun p => b p.2 >>= fun q => (p.1.d q.2).nox >>= fun x => (q.1.d q.2).nox >>= fun y => (ixD x y).nox >>= fun z => R.ok (.vl z, q.2)) := id rfl
@[simp] theorem e_nopart : cNoPart ρ = .ok (none, ρ) := id rfl
@[simp] theorem e_part {m : EM} : cPart m ρ = (m ρ >>= fun p => p.1.v.nox >>= fun d => match d with | .int i => R.ok (some i, p.2) | _ => .stk) := id rfl
@[simp] theorem e_slice {a : EM} {lo hi : OM} : cSlice a lo hi ρ = (a ρ >>= fun p => lo p.2 >>= fun q => hi q.2 >>= fun r => (p.1.d r.2).nox >>= fun d => (sliceD d q.1 r.1).nox >>= fun z => R.ok (.fr z, r.2)) := id rfl
@[simp] theorem e_iter {m : EM} : cIter m ρ = (m ρ >>= fun p => (p.1.d p.2).nox >>= fun d => (itD d).nox >>= fun ds => if szOk ds.length = true then R.ok ((ds, p.1.ws), p.2) else .stk) := id rfl
@[simp] theorem e_range {f : List D → R (List D)} {m : AM} : cRange f m ρ = (m ρ >>= fun p => (vsOf p.1).nox >>= fun ds => (f ds).nox >>= fun xs => if szOk xs.length = true then R.ok ((xs, []), p.2) else .stk) := id rfl
@[simp] theorem e_yes : cYes ρ = .ok (true, ρ) := id rfl
@[simp] theorem e_isi {f : D → Bool} {m : EM} : cIsi f m ρ = (m ρ >>= fun p => (p.1.d p.2).nox >>= fun d => if (noDit d || isFt d) = true then R.ok (.fr (.bl (f d)), p.2) else .stk) := id rfl
@[simp] theorem e_callF {g : List D → R Hd} {m : AM} : cCallF g m ρ = (m ρ >>= fun p => (vsOf p.1).nox >>= fun ds => g ds >>= fun h => match h with | .ow _ => .stk | h => R.ok (h, p.2)) := id rfl
@[simp] theorem e_callIO {pr : List (Nat × Nat)} {g : Fn} {m : AM} : cCallIO pr g m ρ = (m ρ >>= fun p => if placed pr 0 p.1 = true then ((dsOf p.1 p.2).nox >>= fun ds => g ds >>= fun r => match r.1 with | .ow _ => .stk | h => R.ok (h, putOuts r.2 pr p.2)) else .stk) := id rfl
@[simp] theorem e_tmN {i : Nat} {d : D} : tmName i d ρ = .ok (ρ.set i (some d)) := id rfl
@[simp] theorem e_tmT {is : List Nat} {ds : List D} : tmTup is (.tup ds) ρ = if ds.length = is.length then .ok (setAll ρ is ds) else .stk := id rfl
@[simp] theorem e_sa0 {ds : List D} : setAll ρ [] ds = ρ := by unfold setAll; rfl
@[simp] theorem e_sa1 {i : Nat} {is : List Nat} {d : D} {ds : List D} : setAll ρ (i :: is) (d :: ds) = setAll (ρ.set i (some d)) is ds := id rfl
@[simp] theorem e_comp {im : IM} {tm : GM} {t : BM} {e : EM} {vs : List Nat} : cComp im tm t e vs ρ = (im ρ >>= fun p => (cCompL tm t e vs p.1.2 p.1.1 (wipeE p.2 vs)).nox >>= fun q => R.ok (.fr (.lst q.1), q.2)) := id rfl
@[simp] theorem e_skip : sSkip ρ = .ok (.nx, ρ) := id rfl
@[simp] theorem e_seq {m n : SM} : sSeq m n ρ = (m ρ >>= fun p => match p.1 with | .nx => n p.2 | f => R.ok (f, p.2)) := by
  unfold sSeq; congr
@[simp] theorem e_ret {m : EM} : sRet m ρ = (m ρ >>= fun p => R.ok (.rt p.1, p.2)) := id rfl
@[simp] theorem e_sif {t : BM} {m n : SM} : sIf t m n ρ = (t ρ >>= fun p => if p.1 = true then m p.2 else n p.2) := id rfl
@[simp] theorem e_asg {m : EM} {tm : GM} : sAsg m tm ρ = (m ρ >>= fun p => p.1.v.nox >>= fun d => (tm d p.2).nox >>= fun r => R.ok (.nx, r)) := id rfl
@[simp] theorem e_sown {O W : List Nat} {m : EM} {i : Nat} : sOwn O W m i ρ = (m ρ >>= fun p => match p.1 with | .fr d => ((chkO O W ρ p.2).nox >>= fun _ => if d.ownable = true then R.ok (.nx, p.2.set i (some d)) else .stk) | _ => .stk) := by
  unfold sOwn; congr
@[simp] theorem e_app {i : Nat} {m : EM} : sAppend i m ρ = ((lstAt i ρ).nox >>= fun _ => m ρ >>= fun p => p.1.v.nox >>= fun d => (lstAt i p.2).nox >>= fun ds => if szOk (ds.length + 1) = true then R.ok (.nx, p.2.set i (some (.lst (ds ++ [d])))) else .stk) := id rfl
@[simp] theorem e_lat {i : Nat} : lstAt i ρ = (match ρ[i]? with | some (some (.lst ds)) => .ok ds | _ => .stk) := id rfl
@[simp] theorem e_six {i : Nat} {mk mv : EM} : sSetIx i mk mv ρ = (mv ρ >>= fun p => p.1.v.nox >>= fun d => (lstAt i p.2).nox >>= fun _ => mk p.2 >>= fun q => q.1.v.nox >>= fun k => match k with | .int z => ((lstAt i q.2).nox >>= fun ds => match ixN ds.length z with | some j => R.ok (.nx, q.2.set i (some (.lst (ds.set j d)))) | none => .stk) | _ => .stk) := by
  unfold sSetIx; congr
@[simp] theorem e_expr {m : EM} : sExpr m ρ = (m ρ >>= fun p => R.ok (.nx, p.2)) := id rfl
@[simp] theorem e_for {U : List Nat} {im : IM} {tm : GM} {body : SM} {vs : List Nat} : sFor U im tm body vs ρ = (im ρ >>= fun p => if (p.1.2.all fun w => U.contains w) = true then forL tm body vs p.1.2 p.1.1 p.2 else .stk) := id rfl
@[simp] theorem e_w0 : wipeE ρ [] = ρ := id rfl
@[simp] theorem e_w1 {i : Nat} {is : List Nat} : wipeE ρ (i :: is) = (wipeE ρ is).set i none := id rfl
@[simp] theorem e_po0 {os : Env} : putOuts os [] ρ = ρ := id rfl
@[simp] theorem e_po1 {os : Env} {j i : Nat} {pr : List (Nat × Nat)} : putOuts os ((j, i) :: pr) ρ = (putOuts os pr ρ).set i (os.getD j none) := id rfl
@[simp] theorem e_pl0 {pr : List (Nat × Nat)} {j : Nat} : placed pr j [] = true := id rfl
@[simp] theorem e_pl1 {pr : List (Nat × Nat)} {j i : Nat} {hs : List Hd} : placed pr j (.ow i :: hs) = (pr.contains (j, i) && placed pr (j + 1) hs) := id rfl
@[simp] theorem e_pl2 {pr : List (Nat × Nat)} {j : Nat} {d : D} {hs : List Hd} : placed pr j (.vl d :: hs) = ((!pr.any fun p => p.1 == j) && placed pr (j + 1) hs) := id rfl
@[simp] theorem e_pl3 {pr : List (Nat × Nat)} {j : Nat} {d : D} {hs : List Hd} : placed pr j (.fr d :: hs) = ((!pr.any fun p => p.1 == j) && placed pr (j + 1) hs) := id rfl
@[simp] theorem e_rt0 {np : Nat} : retH np .nx ρ = .ok (.fr .non) := id rfl
@[simp] theorem e_rt1 {np : Nat} {d : D} : retH np (.rt (.fr d)) ρ = .ok (.fr d) := id rfl
@[simp] theorem e_rt2 {np : Nat} {d : D} : retH np (.rt (.vl d)) ρ = .ok (.vl d) := id rfl
@[simp] theorem e_rt3 {np i : Nat} : retH np (.rt (.ow i)) ρ = if np ≤ i then ((look i ρ).nox >>= fun d => R.ok (.fr d)) else .stk := id rfl
theorem e_fnP {np n : Nat} {m : SM} {ds : List D} : fnP np n m ds = (m (ds.map some ++ List.replicate (n - np) none) >>= fun p => (retH np p.1 p.2).nox) := rfl
theorem e_fnD {np n : Nat} {O : List Nat} {m : SM} {ds : List D} : fnD np n O m ds = (m (ds.map some ++ List.replicate (n - np) none) >>= fun p => (retH np p.1 p.2).nox >>= fun h => R.ok (h, outs O np p.2)) := rfl
@[simp] theorem e_outs1 {O : List Nat} : outs O 1 ρ = [if O.contains 0 = true then ρ.getD 0 none else none] := id rfl
@[simp] theorem e_outs2 {O : List Nat} : outs O 2 ρ = [if O.contains 0 = true then ρ.getD 0 none else none, if O.contains 1 = true then ρ.getD 1 none else none] := id rfl
@[simp] theorem e_outs3 {O : List Nat} : outs O 3 ρ = [if O.contains 0 = true then ρ.getD 0 none else none, if O.contains 1 = true then ρ.getD 1 none else none, if O.contains 2 = true then ρ.getD 2 none else none] := id rfl
@[simp] theorem e_outs4 {O : List Nat} : outs O 4 ρ = [if O.contains 0 = true then ρ.getD 0 none else none, if O.contains 1 = true then ρ.getD 1 none else none, if O.contains 2 = true then ρ.getD 2 none else none, if O.contains 3 = true then ρ.getD 3 none else none] := id rfl
@[simp] theorem e_outs5 {O : List Nat} : outs O 5 ρ = [if O.contains 0 = true then ρ.getD 0 none else none, if O.contains 1 = true then ρ.getD 1 none else none, if O.contains 2 = true then ρ.getD 2 none else none, if O.contains 3 = true then ρ.getD 3 none else none, if O.contains 4 = true then ρ.getD 4 none else none] := id rfl
end Y

set_option Elab.async false
set_option linter.all false
set_option maxRecDepth 100000
namespace Y
open PySem PySem.Spec PyProof.Rows L2
@[simp] theorem d_add {i j : Int} : addD (.int i) (.int j) = .ok (.int (i + j)) := id rfl
@[simp] theorem d_addT {x y : List D} : addD (.tup x) (.tup y) = if szOk (x.length + y.length) = true then .ok (.tup (x ++ y)) else .stk := id rfl
@[simp] theorem d_addL {x y : List D} : addD (.lst x) (.lst y) = if szOk (x.length + y.length) = true then .ok (.lst (x ++ y)) else .stk := id rfl
@[simp] theorem d_addS {x y : Str} : addD (.str x) (.str y) = if szOk (x.length + y.length) = true then .ok (.str (x ++ y)) else .stk := id rfl
@[simp] theorem d_sub {i j : Int} : subD (.int i) (.int j) = .ok (.int (i - j)) := id rfl
@[simp] theorem d_mul {i j : Int} : mulD (.int i) (.int j) = if mulOk i j = true then .ok (.int (i * j)) else .stk := id rfl
@[simp] theorem d_fdiv {i j : Int} : fdivD (.int i) (.int j) = if smallPos j = true then .ok (.int (i / j)) else .stk := id rfl
@[simp] theorem d_mod {i j : Int} : modD (.int i) (.int j) = if 0 < j then .ok (.int (i % j)) else .stk := id rfl
@[simp] theorem d_shl {i j : Int} : shlD (.int i) (.int j) = if shOk i j = true then .ok (.int (i * 2 ^ j.toNat)) else .stk := id rfl
@[simp] theorem d_shr {i j : Int} : shrD (.int i) (.int j) = if 0 ≤ j then .ok (.int (i / 2 ^ j.toNat)) else .stk := id rfl
@[simp] theorem d_and {i j : Int} : andD (.int i) (.int j) = .ok (.int (Builtin.bitAnd i j)) := id rfl
@[simp] theorem d_xor {i j : Int} : xorD (.int i) (.int j) = .ok (.int (Builtin.bitXor i j)) := id rfl
@[simp] theorem d_lt {i j : Int} : ltD (.int i) (.int j) = .ok (.bl (decide (i < j))) := id rfl
@[simp] theorem d_le {i j : Int} : leD (.int i) (.int j) = .ok (.bl (decide (i ≤ j))) := id rfl
@[simp] theorem d_gt {i j : Int} : gtD (.int i) (.int j) = .ok (.bl (decide (j < i))) := id rfl
@[simp] theorem d_ge {i j : Int} : geD (.int i) (.int j) = .ok (.bl (decide (j ≤ i))) := id rfl
@[simp] theorem d_isnN {x : D} : isNotD x .non = .ok (.bl (!isNon x)) := by cases x <;> rfl
@[simp] theorem d_isnB {a b : Bool} : isNotD (.bl a) (.bl b) = .ok (.bl (!decide (a = b))) := id rfl
@[simp] theorem d_lenT {x : List D} : lenD [.tup x] = .ok (.int x.length) := id rfl
@[simp] theorem d_lenL {x : List D} : lenD [.lst x] = .ok (.int x.length) := id rfl
@[simp] theorem d_lenA {x : List Int} : lenD [.arg x] = .ok (.int x.length) := id rfl
@[simp] theorem d_lenS {x : Str} : lenD [.str x] = if szOk x.length = true then .ok (.int x.length) else .stk := id rfl
@[simp] theorem d_max {i j : Int} : max2D [.int i, .int j] = .ok (.int (max i j)) := id rfl
@[simp] theorem d_min {i j : Int} : min2D [.int i, .int j] = .ok (.int (min i j)) := id rfl
@[simp] theorem d_divmod {i j : Int} : divmodD [.int i, .int j] = if smallPos j = true then .ok (.tup [.int (i / j), .int (i % j)]) else .stk := id rfl
@[simp] theorem d_tupL {x : List D} : tupleD [.lst x] = .ok (.tup x) := id rfl
@[simp] theorem d_tupT {x : List D} : tupleD [.tup x] = .ok (.tup x) := id rfl
@[simp] theorem d_intI {i : Int} : intOfD [.int i] = .ok (.int i) := id rfl
@[simp] theorem d_intB {k : Bool} : intOfD [.bl k] = .ok (.int (if k then 1 else 0)) := id rfl
@[simp] theorem d_ixT {x : List D} {i : Int} : ixD (.tup x) (.int i) = match atI x i with | some d => .ok d | none => .stk := id rfl
@[simp] theorem d_ixL {x : List D} {i : Int} : ixD (.lst x) (.int i) = match atI x i with | some d => .ok d | none => .stk := id rfl
@[simp] theorem d_ixA {x : List Int} {i : Int} : ixD (.arg x) (.int i) = match atI x i with | some n => .ok (.int n) | none => .stk := id rfl
@[simp] theorem d_slT {x : List D} {a b : Option Int} : sliceD (.tup x) a b = .ok (.tup (cutD x a b)) := id rfl
@[simp] theorem d_slL {x : List D} {a b : Option Int} : sliceD (.lst x) a b = .ok (.lst (cutD x a b)) := id rfl
@[simp] theorem d_itL {x : List D} : itD (.lst x) = .ok x := id rfl
@[simp] theorem d_itT {x : List D} : itD (.tup x) = .ok x := id rfl
@[simp] theorem d_itA {x : List Int} : itD (.arg x) = .ok (x.map D.int) := id rfl
@[simp] theorem d_rng1 {j : Int} : rng1D [.int j] = if rngOk j = true then .ok ((List.range j.toNat).map fun i => D.int (i : Nat)) else .stk := by
  show (if rngOk j = true then R.ok ((List.range j.toNat).map fun i => D.int (0 + (i : Nat))) else .stk) = _
  simp
@[simp] theorem d_truB {b : Bool} : truD (.bl b) = .ok b := id rfl
@[simp] theorem d_truN : truD .non = .ok false := id rfl
@[simp] theorem d_truI {i : Int} : truD (.int i) = .ok (i != 0) := id rfl
@[simp] theorem d_truL {x : List D} : truD (.lst x) = .ok (!x.isEmpty) := id rfl
@[simp] theorem d_truT {x : List D} : truD (.tup x) = .ok (!x.isEmpty) := id rfl
theorem ints_map : ∀ xs : List Int, intsOf (xs.map .int) = some xs
  | [] => rfl
  | x :: xs => by simp [intsOf, ints_map xs]
theorem bls_map : ∀ xs : List Bool, blsOf (xs.map .bl) = some xs
  | [] => rfl
  | x :: xs => by simp [blsOf, bls_map xs]
@[simp] theorem d_sum {xs : List Int} : sumD [.lst (xs.map .int)] = .ok (.int xs.sum) := by
  show (match intsOf (xs.map .int) with | some ns => R.ok (D.int ns.sum) | none => .stk) = _
  rw [ints_map]
@[simp] theorem d_all {xs : List Bool} : allD [.lst (xs.map .bl)] = .ok (.bl (xs.all id)) := by
  show (match blsOf (xs.map .bl) with | some ns => R.ok (D.bl (ns.all id)) | none => .stk) = _
  rw [bls_map]
@[simp] theorem d_any {xs : List Bool} : anyD [.lst (xs.map .bl)] = .ok (.bl (xs.any id)) := by
  show (match blsOf (xs.map .bl) with | some ns => R.ok (D.bl (ns.any id)) | none => .stk) = _
  rw [bls_map]
@[simp] theorem d_isNon {x : D} : isNon .non = true := id rfl
theorem szOk_of {n : Nat} (h : n ≤ 16777216) : szOk n = true := decide_eq_true (show n ≤ sizeLine from by unfold sizeLine; omega)
theorem smallPos_of {j : Int} (h : 0 < j) (h2 : j < 1073741824) : smallPos j = true := decide_eq_true ⟨h, h2⟩
theorem rngOk_of {j : Int} (h : -4611686018427387904 ≤ j) (h2 : j < 4611686018427387904) : rngOk j = true := decide_eq_true ⟨by omega, by omega⟩
theorem mulOk_l {i j : Int} (h : i.natAbs < 2 ^ 64) : mulOk i j = true := by
  unfold mulOk
  rw [decide_eq_true h]
  rfl
theorem mulOk_r {i j : Int} (h : j.natAbs < 2 ^ 64) : mulOk i j = true := by
  unfold mulOk
  rw [decide_eq_true h]
  simp
theorem shOk_of {i j : Int} (h : 0 ≤ j) (h2 : j ≤ 1000000) (h3 : i.natAbs < 2 ^ 64) : shOk i j = true := decide_eq_true ⟨h, h2, h3⟩
@[simp] theorem sz0 : szOk 0 = true := by decide
@[simp] theorem sz1 : szOk 1 = true := by decide
@[simp] theorem sz2 : szOk 2 = true := by decide
@[simp] theorem sz3 : szOk 3 = true := by decide
theorem atI_of {α : Type} {xs : List α} {i : Int} {j : Nat} {x : α} (hi : i = j) (h : xs[j]? = some x) : atI xs i = some x := by
  have hj : j < xs.length := (List.getElem?_eq_some_iff.mp h).1
  unfold atI ixN
  subst hi
  rw [if_pos (by omega), if_pos (by omega)]
  show xs[(j : Int).toNat]? = some x
  rw [Int.toNat_natCast, h]
theorem atI_lt {α : Type} {xs : List α} {i : Int} (h0 : 0 ≤ i) (h : i < xs.length) : atI xs i = some (xs[i.toNat]'(by omega)) :=
  atI_of (j := i.toNat) (by omega) (List.getElem?_eq_getElem (by omega))
def eqPs : List D → List D → Bool
  | [], [] => true
  | x :: xs, y :: ys => eqP x y && eqPs xs ys
  | _, _ => false
theorem eqPs_py : ∀ xs ys : List D, PyData.eqvAll (toPys xs) (toPys ys) = eqPs xs ys
  | [], [] => by simp [toPys, PyData.eqvAll, eqPs]
  | [], _ :: _ => by simp [toPys, PyData.eqvAll, eqPs]
  | _ :: _, [] => by simp [toPys, PyData.eqvAll, eqPs]
  | x :: xs, y :: ys => by simp [toPys, PyData.eqvAll, eqPs, eqP, eqPs_py xs ys]
@[simp] theorem eqP_int {i j : Int} : eqP (.int i) (.int j) = (i == j) := by simp [eqP, toPy, PyData.eqv]
@[simp] theorem eqP_bl {i j : Bool} : eqP (.bl i) (.bl j) = (i == j) := by simp [eqP, toPy, PyData.eqv]
@[simp] theorem eqP_str {i j : Str} : eqP (.str i) (.str j) = (i == j) := by simp [eqP, toPy, PyData.eqv]
@[simp] theorem eqP_tup {xs ys : List D} : eqP (.tup xs) (.tup ys) = eqPs xs ys := by simp [eqP, toPy, PyData.eqv, eqPs_py]
@[simp] theorem eqP_lst {xs ys : List D} : eqP (.lst xs) (.lst ys) = eqPs xs ys := by simp [eqP, toPy, PyData.eqv, eqPs_py]
@[simp] theorem eqPs_ints : ∀ {xs ys : List Int}, eqPs (xs.map .int) (ys.map .int) = decide (xs = ys)
  | [], [] => by simp [eqPs]
  | [], _ :: _ => by simp [eqPs]
  | _ :: _, [] => by simp [eqPs]
  | x :: xs, y :: ys => by
    have ih := eqPs_ints (xs := xs) (ys := ys)
    simp only [List.map_cons, eqPs, eqP_int, ih, List.cons.injEq]
    by_cases h : x = y <;> simp [h]
/-- a depth that the machine bears; no dict; texts that it bears -/
def Fit : Nat → D → Prop
  | _, .non => True
  | _, .bl _ => True
  | _, .int _ => True
  | _, .str x => PyData.strOk x = true
  | n + 1, .tup ds => ∀ d ∈ ds, Fit n d
  | n + 1, .lst ds => ∀ d ∈ ds, Fit n d
  | n + 1, .ftu ds => ∀ d ∈ ds, Fit n d
  | _, _ => False
theorem fits_py {n : Nat} : ∀ {ds : List D}, (∀ d ∈ ds, (toPy d).canLay0 = true ∧ (toPy d).depth ≤ n) → PyData.canLayAll0 (toPys ds) = true ∧ PyData.depthAll (toPys ds) ≤ n
  | [], _ => by simp [toPys, PyData.canLayAll0, PyData.depthAll]
  | d :: ds, h => by
    have h1 := h d (by simp)
    have h2 := fits_py (ds := ds) fun e he => h e (by simp [he])
    simp only [toPys, PyData.canLayAll0, PyData.depthAll, h1.1, h2.1, Bool.and_self, true_and]
    omega
theorem fit_py : ∀ {n : Nat} {d : D}, Fit n d → (toPy d).canLay0 = true ∧ (toPy d).depth ≤ n
  | n, .non, _ => by simp [toPy, PyData.canLay0, PyData.depth]
  | n, .bl _, _ => by simp [toPy, PyData.canLay0, PyData.depth]
  | n, .int _, _ => by simp [toPy, PyData.canLay0, PyData.depth]
  | n, .str x, h => by
    have h : PyData.strOk x = true := by cases n <;> exact h
    simp [toPy, PyData.canLay0, PyData.depth, h]
  | 0, .tup ds, h => h.elim
  | 0, .lst ds, h => h.elim
  | n + 1, .tup ds, h => by
    have h : ∀ d ∈ ds, Fit n d := h
    have := fits_py fun d hd => fit_py (h d hd)
    simp only [toPy, PyData.canLay0, PyData.depth, this.1, true_and]
    omega
  | n + 1, .lst ds, h => by
    have h : ∀ d ∈ ds, Fit n d := h
    have := fits_py fun d hd => fit_py (h d hd)
    simp only [toPy, PyData.canLay0, PyData.depth, this.1, true_and]
    omega
  | 0, .ftu ds, h => h.elim
  | n + 1, .ftu ds, h => by
    have h : ∀ d ∈ ds, Fit n d := h
    have := fits_py fun d hd => fit_py (h d hd)
    simp only [toPy, PyData.canLay0, PyData.depth, this.1, true_and]
    omega
  | n, .arg _, h => by cases n <;> exact h.elim
  | n, .dik _ _, h => by cases n <;> exact h.elim
  | n, .dit _ _, h => by cases n <;> exact h.elim
  | n, .tab _ _, h => by cases n <;> exact h.elim
theorem dOk_fit {n : Nat} {d : D} (h : Fit n d) (hn : n ≤ 64 := by decide) : dOk d = true := by
  have := fit_py h
  unfold dOk SeqAt.shaped
  rw [this.1, decide_eq_true (by omega)]
  rfl
theorem fit_ints {n : Nat} {xs : List Int} : ∀ d ∈ xs.map D.int, Fit n d := fun d h => by
  obtain ⟨x, _, rfl⟩ := List.mem_map.mp h
  cases n <;> trivial
theorem fit_int {n : Nat} {i : Int} : Fit n (.int i) := by cases n <;> trivial
theorem fit_bl {n : Nat} {i : Bool} : Fit n (.bl i) := by cases n <;> trivial
theorem fit_tupI {n : Nat} {xs : List Int} : Fit (n + 1) (.tup (xs.map D.int)) := fit_ints
theorem eqD_of {n : Nat} {x y : D} (hx : Fit n x) (hy : Fit n y) (hn : n ≤ 64 := by decide) : eqD x y = .ok (.bl (eqP x y)) := by
  unfold eqD
  rw [dOk_fit hx hn, dOk_fit hy hn]
  rfl
theorem neD_of {n : Nat} {x y : D} (hx : Fit n x) (hy : Fit n y) (hn : n ≤ 64 := by decide) : neD x y = .ok (.bl (!eqP x y)) := by
  unfold neD
  rw [dOk_fit hx hn, dOk_fit hy hn]
  rfl
@[simp] theorem eqD_int {i j : Int} : eqD (.int i) (.int j) = .ok (.bl (decide (i = j))) := by
  rw [eqD_of (n := 0) (by unfold Fit; trivial) (by unfold Fit; trivial), eqP_int]
  by_cases h : i = j <;> simp [h]
@[simp] theorem neD_int {i j : Int} : neD (.int i) (.int j) = .ok (.bl (!decide (i = j))) := by
  rw [neD_of (n := 0) (by unfold Fit; trivial) (by unfold Fit; trivial), eqP_int]
  by_cases h : i = j <;> simp [h]
theorem eqPs_refl : ∀ {ds : List D}, (∀ d ∈ ds, eqP d d = true) → eqPs ds ds = true
  | [], _ => rfl
  | d :: ds, h => by simp [eqPs, h d (by simp), eqPs_refl (ds := ds) fun e he => h e (by simp [he])]
theorem eqP_refl : ∀ {n : Nat} {d : D}, Fit n d → eqP d d = true
  | n, .non, _ => by simp [eqP, toPy, PyData.eqv]
  | n, .bl _, _ => by simp
  | n, .int _, _ => by simp
  | n, .str x, h => by simp
  | 0, .tup ds, h => h.elim
  | 0, .lst ds, h => h.elim
  | n + 1, .tup ds, h => by
    have h : ∀ d ∈ ds, Fit n d := h
    rw [eqP_tup]
    exact eqPs_refl fun d hd => eqP_refl (h d hd)
  | n + 1, .lst ds, h => by
    have h : ∀ d ∈ ds, Fit n d := h
    rw [eqP_lst]
    exact eqPs_refl fun d hd => eqP_refl (h d hd)
  | 0, .ftu ds, h => h.elim
  | n + 1, .ftu ds, h => by
    have h : ∀ d ∈ ds, Fit n d := h
    rw [show eqP (.ftu ds) (.ftu ds) = eqPs ds ds from eqP_tup]
    exact eqPs_refl fun d hd => eqP_refl (h d hd)
  | n, .arg _, h => by cases n <;> exact h.elim
  | n, .dik _ _, h => by cases n <;> exact h.elim
  | n, .dit _ _, h => by cases n <;> exact h.elim
  | n, .tab _ _, h => by cases n <;> exact h.elim
theorem neD_refl {n : Nat} {x : D} (hx : Fit n x) (hn : n ≤ 64 := by decide) : neD x x = .ok (.bl false) := by rw [neD_of hx hx hn, eqP_refl hx]; rfl
def ChkL (O W : List Nat) : Nat → Env → Env → Prop
  | _, _, [] => True
  | j, x :: xs, y :: ys => (y = none ∨ (y = x ∧ j ∉ W) ∨ (∃ d, y = some d ∧ ((j ∈ O ∧ d.shallow = true) ∨ d.nl = true))) ∧ ChkL O W (j + 1) xs ys
  | _, [], _ :: _ => False
theorem ChkL.at {O W : List Nat} : ∀ {ρ ρ' : Env} {k j : Nat} {d : D}, ChkL O W k ρ ρ' → ρ'[j]? = some (some d) → (ρ[j]? = some (some d) ∧ k + j ∉ W) ∨ (k + j ∈ O ∧ d.shallow = true) ∨ d.nl = true
  | _, [], _, _, _, _, e => by simp at e
  | [], _ :: _, _, _, _, h, _ => h.elim
  | x :: xs, y :: ys, k, 0, d, h, e => by
    simp at e
    subst e
    rcases h.1 with h | ⟨h, w⟩ | ⟨d', h, w⟩
    · cases h
    · exact .inl ⟨by simp [h], w⟩
    · cases h; exact .inr w
  | x :: xs, y :: ys, k, j + 1, d, h, e => by
    have := ChkL.at (j := j) h.2 (by simpa using e)
    rw [show k + (j + 1) = k + 1 + j by omega]
    simpa using this
@[simp] theorem e_wsf {d : D} : Hd.ws (.fr d) = [] := id rfl
@[simp] theorem e_wsv {d : D} : Hd.ws (.vl d) = [] := id rfl
@[simp] theorem e_wso {i : Nat} : Hd.ws (.ow i) = [i] := id rfl
def shAt (i : Nat) (ρ : Y.Env) : Bool := match ρ[i]? with | some (some d) => d.shallow | _ => true
@[simp] theorem chkO_w1 {O : List Nat} {i : Nat} {ρ : Y.Env} (hi : i ∈ O) (h : shAt i ρ = true) : chkO O [i] ρ ρ = .ok () := by
  unfold chkO
  rw [if_pos]
  intro j d e
  by_cases c : j = i
  · subst c
    unfold shAt at h
    rw [e] at h
    exact .inr (.inl ⟨hi, h⟩)
  · exact .inl ⟨e, by simpa using c⟩
@[simp] theorem shL {ds : List D} : D.shallow (.lst ds) = nls ds := id rfl
@[simp] theorem nls0 : nls [] = true := by simp [nls]
@[simp] theorem nls1 {d : D} {ds : List D} : nls (d :: ds) = (d.nl && nls ds) := by simp [nls]
@[simp] theorem nlI {i : Int} : D.nl (.int i) = true := by simp [D.nl]
@[simp] theorem nlB {i : Bool} : D.nl (.bl i) = true := by simp [D.nl]
@[simp] theorem nlS {i : Str} : D.nl (.str i) = true := by simp [D.nl]
@[simp] theorem nlN : D.nl .non = true := by simp [D.nl]
@[simp] theorem nlT {ds : List D} : D.nl (.tup ds) = nls ds := by simp [D.nl]
@[simp] theorem owL {ds : List D} : D.ownable (.lst ds) = true := id rfl
theorem nls_all : ∀ {ds : List D}, (∀ d ∈ ds, d.nl = true) → nls ds = true
  | [], _ => by simp
  | d :: ds, h => by simp [h d (by simp), nls_all fun e he => h e (List.mem_cons_of_mem _ he)]
@[simp] theorem nls_ints {xs : List Int} : nls (xs.map D.int) = true := nls_all fun d h => by
  obtain ⟨x, _, rfl⟩ := List.mem_map.mp h
  simp
/-- one turn of a comprehension; of a for -/
def turnC (tm : GM) (t : BM) (e : EM) (vs : List Nat) (x : D) (ρ : Env) : R (Option D × Env) :=
  tm x ρ >>= fun ρ1 => t ρ1 >>= fun p => if p.1 = true then (e p.2 >>= fun q => q.1.v >>= fun d => R.ok (some d, wipeE q.2 vs)) else R.ok (none, wipeE p.2 vs)
def turnF (tm : GM) (body : SM) (vs : List Nat) (x : D) (ρ : Env) : R (Fl × Env) :=
  (tm x ρ).nox >>= fun ρ1 => body ρ1 >>= fun p => match p.1 with | .nx => R.ok (.nx, wipeE p.2 vs) | .ct => R.ok (.nx, wipeE p.2 vs) | f => R.ok (f, p.2)
theorem comp_cons {tm : GM} {t : BM} {e : EM} {vs ws : List Nat} {x : D} {xs ys : List D} {ρ ρ' ρf : Env} {o : Option D} (h : turnC tm t e vs x ρ = .ok (o, ρ')) (hw : ∀ w ∈ ws, ρ'[w]? = ρ[w]?) (h2 : cCompL tm t e vs ws xs ρ' = .ok (ys, ρf)) : cCompL tm t e vs ws (x :: xs) ρ = .ok (o.toList ++ ys, ρf) := by
  have ck : chk ws ρ ρ' = .ok () := by unfold chk; rw [if_pos hw]
  unfold turnC at h
  obtain ⟨ρ1, e1, h⟩ := R.ok_of h
  obtain ⟨⟨k, ρ2⟩, e3, h⟩ := R.ok_of h
  unfold cCompL
  rw [e1]
  simp only [R.bind_ok]
  rw [e3]
  cases k with
  | false =>
    have h : R.ok (none, wipeE ρ2 vs) = R.ok (o, ρ') := h
    cases h
    simp only [R.bind_ok, Bool.false_eq_true, if_false]
    rw [ck]
    exact h2
  | true =>
    have h : (e ρ2 >>= fun q => q.1.v >>= fun d => R.ok (some d, wipeE q.2 vs)) = R.ok (o, ρ') := h
    obtain ⟨⟨hd, ρ3⟩, e4, h⟩ := R.ok_of h
    obtain ⟨d, e5, h⟩ := R.ok_of h
    cases h
    simp only [R.bind_ok, if_true]
    rw [e4]
    simp only [R.bind_ok]
    rw [show hd.v = _ from e5]
    simp only [R.bind_ok]
    rw [ck]
    simp only [R.bind_ok]
    rw [h2]
    rfl
theorem for_cons {tm : GM} {body : SM} {vs ws : List Nat} {x : D} {xs : List D} {ρ ρ' : Env} {r : R (Fl × Env)} (h : turnF tm body vs x ρ = .ok (.nx, ρ')) (hw : ∀ w ∈ ws, ρ'[w]? = ρ[w]?) (h2 : forL tm body vs ws xs ρ' = r) : forL tm body vs ws (x :: xs) ρ = r := by
  have ck : chk ws ρ ρ' = .ok () := by unfold chk; rw [if_pos hw]
  unfold turnF at h
  obtain ⟨ρ1, e1, h⟩ := R.ok_of h
  obtain ⟨⟨f, ρ2⟩, e3, h⟩ := R.ok_of h
  unfold forL
  rw [e1]
  simp only [R.bind_ok]
  rw [e3]
  cases f with
  | nx =>
    have h : R.ok (Fl.nx, wipeE ρ2 vs) = R.ok (Fl.nx, ρ') := h
    cases h
    simp only [R.bind_ok]
    rw [ck]
    exact h2
  | ct =>
    have h : R.ok (Fl.nx, wipeE ρ2 vs) = R.ok (Fl.nx, ρ') := h
    cases h
    simp only [R.bind_ok]
    rw [ck]
    exact h2
  | bk => cases h
  | rt _ => cases h
section
variable {α : Type}
/-- the yields of a comprehension and the state behind it -/
def yields {S : Type} (next : S → α → S) (out : S → α → Option D) : List α → S → List D × S
  | [], s => ([], s)
  | x :: xs, s => ((out s x).toList ++ (yields next out xs (next s x)).1, (yields next out xs (next s x)).2)
/-- a comprehension that changes nothing: f is what it yields -/
theorem comp_map {tm : GM} {t : BM} {e : EM} {vs ws : List Nat} {ρ : Env} (F f : α → D) : ∀ (xs : List α),
    (∀ x ∈ xs, turnC tm t e vs (F x) ρ = .ok (some (f x), ρ)) → cCompL tm t e vs ws (xs.map F) ρ = .ok (xs.map f, ρ)
  | [], _ => rfl
  | x :: xs, h => comp_cons (h x (by simp)) (fun _ _ => rfl) (comp_map F f xs fun y hy => h y (by simp [hy]))
/-- .. with a test p, yields f -/
theorem comp_filter {tm : GM} {t : BM} {e : EM} {vs ws : List Nat} {ρ : Env} (F : α → D) (p : α → Bool) (f : α → D) : ∀ (xs : List α),
    (∀ x ∈ xs, turnC tm t e vs (F x) ρ = .ok (if p x = true then some (f x) else none, ρ)) → cCompL tm t e vs ws (xs.map F) ρ = .ok ((xs.filter p).map f, ρ)
  | [], _ => rfl
  | x :: xs, h => by
    have := comp_cons (ws := ws) (h x (by simp)) (fun _ _ => rfl) (comp_filter F p f xs fun y hy => h y (by simp [hy]))
    rw [List.map_cons, this]
    cases hp : p x with
    | false => rw [List.filter_cons_of_neg (by simp [hp])]; rfl
    | true => rw [List.filter_cons_of_pos hp]; rfl
/-- for: states -/
theorem for_run {S : Type} {tm : GM} {body : SM} {vs ws : List Nat} (F : α → D) (rho : S → Env) (next : S → α → S) (I : S → Prop) : ∀ (xs : List α) (s : S), I s →
    (∀ s x, I s → x ∈ xs → I (next s x) ∧ (∀ w ∈ ws, (rho (next s x))[w]? = (rho s)[w]?) ∧ turnF tm body vs (F x) (rho s) = .ok (.nx, rho (next s x))) →
    forL tm body vs ws (xs.map F) (rho s) = .ok (.nx, rho (xs.foldl next s)) ∧ I (xs.foldl next s)
  | [], s, hs, _ => ⟨rfl, hs⟩
  | x :: xs, s, hs, h => by
    obtain ⟨h1, hw, h2⟩ := h s x hs (by simp)
    have ih := for_run F rho next I xs (next s x) h1 fun s y hs hy => h s y hs (by simp [hy])
    exact ⟨for_cons h2 hw ih.1, ih.2⟩
/-- for: something that holds of what stands -/
theorem for_inv {tm : GM} {body : SM} {vs ws : List Nat} (F : α → D) (I : Env → Prop) : ∀ (xs : List α) (ρ : Env), I ρ →
    (∀ ρ x, I ρ → x ∈ xs → ∃ ρ', turnF tm body vs (F x) ρ = .ok (.nx, ρ') ∧ I ρ' ∧ (∀ w ∈ ws, ρ'[w]? = ρ[w]?)) →
    ∃ ρ', forL tm body vs ws (xs.map F) ρ = .ok (.nx, ρ') ∧ I ρ'
  | [], ρ, hs, _ => ⟨ρ, rfl, hs⟩
  | x :: xs, ρ, hs, h => by
    obtain ⟨ρ1, e1, e3, hw⟩ := h ρ x hs (by simp)
    obtain ⟨ρ', e4, h4⟩ := for_inv (body := body) (tm := tm) (ws := ws) F I xs ρ1 e3 fun s y hs hy => h s y hs (by simp [hy])
    exact ⟨ρ', for_cons e1 hw e4, h4⟩
/-- for: by the turn's number -/
theorem for_idx {tm : GM} {body : SM} {vs ws : List Nat} (F : α → D) : ∀ (xs : List α) (rho : Nat → Env),
    (∀ i (h : i < xs.length), (∀ w ∈ ws, (rho (i + 1))[w]? = (rho i)[w]?) ∧ turnF tm body vs (F xs[i]) (rho i) = .ok (.nx, rho (i + 1))) → forL tm body vs ws (xs.map F) (rho 0) = .ok (.nx, rho xs.length)
  | [], rho, _ => rfl
  | x :: xs, rho, h => by
    have h0 := h 0 (by simp)
    have ih := for_idx F xs (fun i => rho (i + 1)) fun i hi => h (i + 1) (by simp; omega)
    exact for_cons h0.2 h0.1 ih
theorem for_rng {tm : GM} {body : SM} {vs ws : List Nat} {n : Nat} (F : Nat → D) (rho : Nat → Env) (h : ∀ i, i < n → (∀ w ∈ ws, (rho (i + 1))[w]? = (rho i)[w]?) ∧ turnF tm body vs (F i) (rho i) = .ok (.nx, rho (i + 1))) : forL tm body vs ws ((List.range n).map F) (rho 0) = .ok (.nx, rho n) := by
  have := for_idx (tm := tm) (body := body) (vs := vs) (ws := ws) F (List.range n) rho fun i hi => by
    rw [List.getElem_range]
    exact h i (by simpa using hi)
  rwa [List.length_range] at this
/-- a comprehension whose turns change what stands: something of each yield -/
theorem comp_ex {S β : Type} {tm : GM} {t : BM} {e : EM} {vs ws : List Nat} (F : α → D) (G : β → D) (rho : S → Env) (P : β → Prop) : ∀ (xs : List α) (s : S),
    (∀ s x, x ∈ xs → ∃ y s', turnC tm t e vs (F x) (rho s) = .ok (some (G y), rho s') ∧ P y ∧ (∀ w ∈ ws, (rho s')[w]? = (rho s)[w]?)) →
    ∃ (ys : List β) (s' : S), cCompL tm t e vs ws (xs.map F) (rho s) = .ok (ys.map G, rho s') ∧ ys.length = xs.length ∧ ∀ y ∈ ys, P y
  | [], s, _ => ⟨[], s, rfl, rfl, by simp⟩
  | x :: xs, s, h => by
    obtain ⟨y, s1, e1, p1, w1⟩ := h s x (by simp)
    obtain ⟨ys, s2, e2, l2, p2⟩ := comp_ex F G rho P xs s1 fun s y hy => h s y (by simp [hy])
    exact ⟨y :: ys, s2, comp_cons e1 w1 e2, by simp [l2], by simpa using ⟨p1, p2⟩⟩
theorem comp_exF {S : Type} {tm : GM} {t : BM} {e : EM} {vs ws : List Nat} (F G : α → D) (rho : S → Env) : ∀ (xs : List α) (s : S),
    (∀ s x, x ∈ xs → ∃ b s', turnC tm t e vs (F x) (rho s) = .ok (if b = true then some (G x) else none, rho s') ∧ (∀ w ∈ ws, (rho s')[w]? = (rho s)[w]?)) →
    ∃ (ys : List α) (s' : S), cCompL tm t e vs ws (xs.map F) (rho s) = .ok (ys.map G, rho s') ∧ ys.Sublist xs
  | [], s, _ => ⟨[], s, rfl, List.Sublist.slnil⟩
  | x :: xs, s, h => by
    obtain ⟨b, s1, e1, w1⟩ := h s x (by simp)
    obtain ⟨ys, s2, e2, l2⟩ := comp_exF F G rho xs s1 fun s y hy => h s y (by simp [hy])
    have := comp_cons e1 w1 e2
    cases b with
    | true => exact ⟨x :: ys, s2, this, l2.cons₂ x⟩
    | false => exact ⟨ys, s2, this, l2.cons x⟩
end
end Y

set_option Elab.async false
set_option linter.all false
set_option maxRecDepth 100000
namespace Y
open PySem PySem.Spec PyProof.Rows L2
def rgD (a b : Int) : List D := (List.range (b - a).toNat).map fun i => D.int (a + (i : Nat))
def rgB (a b : Int) : Bool := rngOk a && rngOk b && decide ((b - a).toNat ≤ 16777216)
def cRg1 (l : Bool) (m : EM) : EM := fun ρ => do
  let (h, ρ1) ← m ρ
  let d ← h.v.nox
  match d with
  | .int n => if rgB 0 n = true then pure (.fr (if l then .lst (rgD 0 n) else .tup (rgD 0 n)), ρ1) else .stk
  | _ => .stk
section
variable {K : PySem.W.Frag} {X : Cx} {P0 : Pr} {O W U : List Nat} {E : EK} {a b e : Expr} {es : List Expr} {ma mb : EM} {ms : AM} {pos : Pos}
theorem rgB_ok {a b : Int} (h : rgB a b = true) : RgOk a b := by
  unfold rgB rngOk at h
  simp only [Bool.and_eq_true, decide_eq_true_eq] at h
  obtain ⟨⟨h1, h2⟩, h3⟩ := h
  exact ⟨by omega, by omega, by omega, by omega, by have e : (2 : Nat) ^ 24 = 16777216 := by decide
                                                    omega⟩
theorem reps_rg {H : Hp} {P : Pr} {a b : Int} : Reps K H (rgD a b) P (rgV a b) := by
  unfold rgD rgV
  induction (List.range (b - a).toNat) with
  | nil => exact Reps.nil
  | cons x xs ih => exact Reps.cons (by unfold Rep; rfl) ih
theorem out_lst {P : Pr} {H : Hp} {ds : List D} {vs : List V} {Q : VK} (hm : ∀ b, P b → isMut (H b)) (o : Out K P H (.lst ds) Q) (r : ∀ H' P', Reps K H' ds P' vs) : ∀ q, H q = none → Q (.ref q) (upd H q (.lst vs)) := fun q hq => o _ _ (fun b u eb => by rw [upd_ne (ne_of_none eb hq)]; exact eb) (by
    unfold Rep
    exact ⟨q, vs, rfl, fun z => (hm q z).some hq, upd_same, r _ _⟩) fun _ a e => by cases e; exact hq
theorem out_tup {P : Pr} {H : Hp} {ds : List D} {vs : List V} {Q : VK} (o : Out K P H (.tup ds) Q) (r : ∀ H' P', Reps K H' ds P' vs) : ∀ q, H q = none → Q (.ref q) (upd H q (.tup vs)) := fun q hq => o _ _ (fun b u eb => by rw [upd_ne (ne_of_none eb hq)]; exact eb) (by
    unfold Rep
    exact ⟨q, vs, rfl, upd_same, r _ _⟩) fun m => by cases m
theorem tM_rg1 {l : Bool} (σ : St) (H : Hp) (Q : VK) (h : tM X.K P0 O W E (cRg1 l ma) σ H Q) : tRg1 (tM X.K P0 O W E ma) σ H fun a b H1 => RgOk a b ∧ ∀ q, H1 q = none → Q (.ref q) (upd H1 q (if l then .lst (rgV a b) else .tup (rgV a b))) := by
  obtain ⟨ρ, S, h⟩ := h
  refine ⟨ρ, S, h.of_bind.mono fun ⟨hd, ρ1⟩ q v H1 S1 k1 r1 => ?_⟩
  obtain ⟨d, e1, q⟩ := q.of_nox
  have rd := r1.v e1
  cases d <;> first | (exact q.elim) | skip
  rename_i n
  unfold Rep at rd
  subst rd
  refine ⟨n, rfl, ?_⟩
  by_cases c : rgB 0 n = true
  · have q : Res E W σ H (if rgB 0 n = true then R.ok (Hd.fr (if l then .lst (rgD 0 n) else .tup (rgD 0 n)), ρ1) else .stk) _ := q
    rw [if_pos c] at q
    refine ⟨rgB_ok c, ?_⟩
    have o := out_of S1 k1 q
    cases l with
    | true => exact out_lst S1.dom o fun _ _ => reps_rg
    | false => exact out_tup o fun _ _ => reps_rg
  · have q : Res E W σ H (if rgB 0 n = true then R.ok (Hd.fr (if l then .lst (rgD 0 n) else .tup (rgD 0 n)), ρ1) else .stk) _ := q
    rw [if_neg c] at q
    exact q.elim
theorem ce_lrg1 {p p2 pos : Pos} (hc : X.calm = true) (hm : X.mg "list" = none) (hm2 : X.mg "range" = none) (ha : CEx X P0 O W E a ma) (hg : Gl X "list" := by rfl) (hg2 : Gl X "range" := by rfl) (na : starEach [a] X.env = (false, eval a X.env) :: starEach [] X.env := by rfl)
    (na2 : starEach [.Call (.Name "range" p) [a] [] p2] X.env = (false, eval (.Call (.Name "range" p) [a] [] p2) X.env) :: starEach [] X.env := by rfl) {q : Pos} : CEx X P0 O W E (.Call (.Name "list" q) [.Call (.Name "range" p) [a] [] p2] [] pos) (cRg1 true ma) :=
  PE.imp (pe_listRg hc hg hm (prg_1 hg2 hm2 ha na) na2) fun σ H Q h => tM_rg1 σ H Q h
def sortI (ns : List Int) : List Int := ns.mergeSort (fun a b => decide (a ≤ b))
theorem sortI_perm (ns : List Int) : (sortI ns).Perm ns := List.mergeSort_perm _ _
theorem sortI_pw (ns : List Int) : (sortI ns).Pairwise (· ≤ ·) := by
  have := List.pairwise_mergeSort (le := fun a b : Int => decide (a ≤ b)) (fun a b c h1 h2 => by simp at *; omega) (fun a b => by simp; omega) ns
  exact this.imp fun h => by simpa using h
theorem sortI_of {ns ms : List Int} (p : ms.Perm ns) (h : ms.Pairwise (· ≤ ·)) : ms = sortI ns :=
  List.Perm.eq_of_pairwise (le := fun a b : Int => a ≤ b) (fun a b _ _ h1 h2 => by omega) h (sortI_pw ns) (p.trans (sortI_perm ns).symm)
def sortedD : List D → R D
  | [.lst ds] => match intsOf ds with | some ns => .ok (.lst ((sortI ns).map D.int)) | none => .stk
  | _ => .stk
theorem cd_sortedI : CallR X (.builtin "sorted") (rDs X.K sortedD) := by
  intro pins s σ H xs us Q I r ⟨P, ds, dz, hm, rs, e, out⟩
  unfold sortedD at e
  split at e
  · split at e
    · rename_i ns ei
      cases e
      obtain ⟨v, rfl, r1⟩ := rs.get1
      obtain ⟨a, vs, rfl, h1, h2⟩ := r1.lst
      rw [ints_rep ei h2] at h1
      exact cr_sortedI pins s σ H _ us Q I r ⟨a, ns, rfl, SqL.of h1, fun ns' p pp pw hp => by
        rw [sortI_of pp pw]
        exact out_lst hm out (fun _ _ => reps_ints _) p hp⟩
    · cases e
  · cases e
@[simp] theorem d_sortI {xs : List Int} : sortedD [.lst (xs.map D.int)] = .ok (.lst ((sortI xs).map D.int)) := by
  show (match intsOf (xs.map .int) with | some ns => R.ok (D.lst ((sortI ns).map D.int)) | none => .stk) = _
  rw [ints_map]
def popRes (i : Nat) (ds : List D) (z : Int) (ρ1 : Y.Env) : R (Hd × Y.Env) := if szOk ds.length = true then (match ixN ds.length z with
    | some k => (match ds[k]? with
      | some d => .ok (.vl d, ρ1.set i (some (.lst (ds.eraseIdx k))))
      | none => .stk)
    | none => .stk) else .stk
def cPopAt (i : Nat) (m : EM) : EM := fun ρ => do
  let _ ← (lstAt i ρ).nox
  let (h, ρ1) ← m ρ
  let d ← h.v.nox
  match d with
  | .int z => do
    let ds ← (lstAt i ρ1).nox
    popRes i ds z ρ1
  | _ => .stk
theorem Keep.ownW {i : Nat} {l : Addr} {o : HO} {σ : St} {H H1 : Hp} (k : Keep W σ H H1) (hi : i ∈ W) (ha : σ[i]? = Option.some (Option.some (V.ref l))) : Keep W σ H (upd H1 l o) where
  keep := fun b u e n => by
    rw [upd_ne fun (z : b = l) => n ⟨i, hi, by rw [z]; exact ha⟩]
    exact k.keep b u e n
  some := fun b e => by
    by_cases hb : b = l
    · rw [hb, upd_same]; intro z; cases z
    · rw [upd_ne hb]; exact k.some b e
theorem Reps.erase {H : Hp} {P : Pr} : ∀ {ds : List D} {vs : List V} (k : Nat), Reps K H ds P vs → Reps K H (ds.eraseIdx k) P (vs.eraseIdx k)
  | [], _, k, h => by rw [h.nil_iff]; simp; exact Reps.nil
  | d :: ds, _, 0, h => by
    obtain ⟨v, ws, rfl, h1, h2⟩ := h.cons_iff
    exact h2
  | d :: ds, _, k + 1, h => by
    obtain ⟨v, ws, rfl, h1, h2⟩ := h.cons_iff
    exact Reps.cons h1 (Reps.erase k h2)
theorem tM_popAt {i : Nat} (hi : i ∈ O) (hw : i ∈ W) (σ : St) (H : Hp) (Q : VK) (h : tM K P0 O W E (cPopAt i ma) σ H Q) : tBM K "list" rPopAt (tVar i) (tCons (tM K P0 O W E ma) tNil) σ H Q := by
  obtain ⟨ρ, S, h⟩ := h
  obtain ⟨ds0, e0, h⟩ := h.of_nox
  obtain ⟨l, vs0, h1, h2, _⟩ := S.lst hi (lstAt_ok e0)
  refine ⟨.ref l, h1, .inl ⟨rfl, _, SqL.of h2⟩, ρ, S, h.of_bind.mono fun ⟨hd, ρ1⟩ q v H1 S1 k1 r1 => ?_⟩
  obtain ⟨d, e1, q⟩ := q.of_nox
  have rd := r1.v e1
  cases d <;> first | (exact q.elim) | skip
  rename_i z
  unfold Rep at rd
  subst rd
  obtain ⟨ds, e2, q⟩ := Res.of_nox (show Res E W σ H ((lstAt i ρ1).nox >>= _) _ from q)
  obtain ⟨l', vs, h1', h3, h4⟩ := S1.lst hi (lstAt_ok e2)
  rw [h1] at h1'
  cases h1'
  have q : Res E W σ H (popRes i ds z ρ1) _ := q
  unfold popRes at q
  by_cases c : szOk ds.length = true
  · rw [if_pos c] at q
    have c := of_decide_eq_true c
    cases ej : ixN ds.length z with
    | none => rw [ej] at q; exact q.elim
    | some k =>
      rw [ej] at q
      cases ed : ds[k]? with
      | none => simp only [ed] at q; exact q.elim
      | some d =>
        simp only [ed] at q
        obtain ⟨y, ey, ry⟩ := h4.get ed
        obtain ⟨a1, a2, a3, a4⟩ := ixN_seq ej
        have e24 : sizeLine = 16777216 := by decide
        have hv : FA P0 O σ = FA P0 O σ := rfl
        refine ⟨l, vs, z, k, y, rfl, rfl, h3, by omega, by omega, by rw [h4.length]; exact a1, ey, ?_⟩
        have S2 := S1.lstW hi h1 h3 (Reps.erase k h4)
        refine q y _ S2 (k1.ownW hw h1) ?_
        exact ry.mono d S1.dom (fun b o e n => by rw [upd_ne fun z => n (.inr ⟨i, hi, by rw [z]; exact h1⟩)]; exact e) fun b z => .inl z
  · rw [if_neg c] at q
    exact q.elim
theorem ce_popAt {i : Nat} {x : Str} {p ap cp : Pos} (h : CEx X P0 O W E e ma) (hi : i ∈ O := by decide) (hw : i ∈ W := by decide) (hx : X.N[i]? = some x := by rfl) (hv : Vis X.env.scope x := by first | exact Or.inl rfl | exact Or.inr (Or.inl rfl) | exact Or.inr (Or.inr rfl)) (hd : (x == ("__debug__" : Str)) = false := by decide) (hcd : (x == ("__classdict__" : Str)) = false := by decide)
    (he : starEach [e] X.env = (false, eval e X.env) :: starEach [] X.env := by rfl) (hpl : (backTo cp (starEach [] X.env)).any (·.1) = false := by rfl) (hbase : attributeBase (.Name x p) "pop" X.env (eval (.Name x p) X.env) = eval (.Name x p) X.env := by rfl) (hline : (ap.endLine == cp.line) = true := by rfl)
    (hfew : Few X cp [e] := by rfl) : CEx X P0 O W E (.Call (.Attribute (.Name x p) "pop" ap) [e] [] cp) (cPopAt i ma) :=
  PE.imp (pe_bm PySem.F.plainAttrs_list PySem.F.slot_list_pop PySem.F.type_list_pop mt_popAt (pe_var (i := i) hx hv hd hcd) (pa_cons h pa_nil he) hbase hfew hline he hpl) (tM_popAt hi hw)
end
end Y

set_option Elab.async false
set_option linter.all false
set_option maxRecDepth 100000
set_option maxHeartbeats 4000000
namespace Y
open PySem PySem.Spec PyProof.Rows L2
def ltL : List Int → List Int → Bool
  | [], [] => false
  | [], _ :: _ => true
  | _ :: _, [] => false
  | x :: xs, y :: ys => if x = y then ltL xs ys else decide (x < y)
theorem ltL_asym : ∀ {a b : List Int}, ltL a b = true → ltL b a = false
  | [], [], h => by simp [ltL] at h
  | [], _ :: _, _ => rfl
  | _ :: _, [], h => by simp [ltL] at h
  | x :: xs, y :: ys, h => by
    unfold ltL at h ⊢
    by_cases e : x = y
    · rw [if_pos e] at h
      rw [if_pos e.symm]
      exact ltL_asym h
    · rw [if_neg e, decide_eq_true_eq] at h
      rw [if_neg fun z => e z.symm, decide_eq_false_iff_not]
      omega
theorem ltL_tr : ∀ {a b c : List Int}, ltL b a = false → ltL c b = false → ltL c a = false
  | a, b, [], h1, h2 => by
    cases b with
    | nil => exact h1
    | cons => simp [ltL] at h2
  | [], b, z :: zs, _, _ => rfl
  | x :: xs, [], z :: zs, h1, _ => by simp [ltL] at h1
  | x :: xs, y :: ys, z :: zs, h1, h2 => by
    unfold ltL at h1 h2 ⊢
    by_cases e1 : y = x
    · rw [if_pos e1] at h1
      by_cases e2 : z = y
      · rw [if_pos e2] at h2
        rw [if_pos (e2.trans e1)]
        exact ltL_tr h1 h2
      · rw [if_neg e2, decide_eq_false_iff_not] at h2
        rw [if_neg (by omega), decide_eq_false_iff_not]
        omega
    · rw [if_neg e1, decide_eq_false_iff_not] at h1
      by_cases e2 : z = y
      · rw [if_neg (by omega), decide_eq_false_iff_not]
        omega
      · rw [if_neg e2, decide_eq_false_iff_not] at h2
        rw [if_neg (by omega), decide_eq_false_iff_not]
        omega
theorem ltL_eq : ∀ {a b : List Int}, ltL a b = false → ltL b a = false → a = b
  | [], [], _, _ => rfl
  | [], _ :: _, h, _ => by simp [ltL] at h
  | _ :: _, [], _, h => by simp [ltL] at h
  | x :: xs, y :: ys, h1, h2 => by
    unfold ltL at h1 h2
    by_cases e : x = y
    · rw [if_pos e] at h1
      rw [if_pos e.symm] at h2
      rw [e, ltL_eq h1 h2]
    · rw [if_neg e, decide_eq_false_iff_not] at h1
      rw [if_neg fun z => e z.symm, decide_eq_false_iff_not] at h2
      omega
theorem ltL_swo {β : Type} (k : β → List Int) : SrtO.Swo fun v u => ltL (k v) (k u) := ⟨fun _ _ h => ltL_asym h, fun _ _ _ h1 h2 => ltL_tr h1 h2⟩
def sortL (xs : List (List Int)) : List (List Int) := xs.mergeSort fun a b => !ltL b a
theorem sortL_perm (xs : List (List Int)) : (sortL xs).Perm xs := List.mergeSort_perm _ _
theorem sortL_pw (xs : List (List Int)) : (sortL xs).Pairwise fun a b => ltL b a = false := by
  have := List.pairwise_mergeSort (le := fun a b : List Int => !ltL b a) (fun a b c h1 h2 => by
    simp only [Bool.not_eq_true'] at *
    exact ltL_tr h1 h2) (fun a b => by
    cases e : ltL b a with
    | false => rfl
    | true => simp [ltL_asym e]) xs
  exact this.imp fun h => by simpa using h
theorem sortL_of {xs ys : List (List Int)} (p : ys.Perm xs) (h : ys.Pairwise fun a b => ltL b a = false) : ys = sortL xs :=
  List.Perm.eq_of_pairwise (le := fun a b : List Int => ltL b a = false) (fun a b _ _ h1 h2 => ltL_eq h2 h1) h (sortL_pw xs) (p.trans (sortL_perm xs).symm)
def TupV (h : Heap) (v : Value) (ns : List Int) : Prop := ∃ a o its n, v = .ref a ∧ h.get? a = some o ∧ o.cls = .type "tuple" ∧ o.data = .seq its n ∧ IntsAre its.toList ns
theorem TupV.at {h g : Heap} {v : Value} {ns : List Int} (p : TupV h v ns) (k : ∀ b o, h.get? b = some o → o.cls = .type "tuple" → g.get? b = some o) : TupV g v ns :=
  let ⟨a, o, its, n, e, ho, c, d, i⟩ := p
  ⟨a, o, its, n, e, k _ _ ho c, c, d, i⟩
section
variable {prog : Program} {w : World} {A : Around} {E : Value → Shared → Prop} {s : Shared}
/-- two tuples' items in turn -/
theorem lexI {b fin : Bool} {Q : Bool → Shared → Prop} : ∀ {xs ys : List Value} {ns ms : List Int} (i : Nat), IntsAre xs ns → IntsAre ys ms → ((ns.length < ms.length ↔ fin = true) → True) →
    (∀ r, (∀ k, ns.take k = ms.take k → k = min ns.length ms.length → r = fin) → (¬ (ns.take (min ns.length ms.length) = ms.take (min ns.length ms.length)) → r = ltL ns ms) → Q r s) → PySem.W.KatLex prog w A b fin Q (xs.zip ys) i s
  | _, _, _, _, i, .nil, _, _, q => PySem.W.kat_nil (q fin (fun _ _ _ => rfl) fun z => by simp at z)
  | _, _, _, _, i, .cons n t r, .nil, _, q => PySem.W.kat_nil (q fin (fun _ _ _ => rfl) fun z => by simp at z)
  | _, _, _, _, i, .cons n t r1, .cons m u r2, _, q => by
    rw [List.zip_cons_cons]
    refine PySem.W.kat_cons (SeqAt.EqAt.int_int n t m u prog w _ _ ?_)
    refine PySem.W.kat_go (fun e1 => ?_) (fun e1 => ?_)
    · obtain rfl : n = m := by simpa using e1
      refine PySem.W.kat_yes (lexI (i + 1) r1 r2 (fun _ => trivial) fun r h1 h2 => q r (fun k hk hm => ?_) fun hn => ?_)
      · rw [List.length_cons, List.length_cons, Nat.succ_min_succ] at hm
        subst hm
        exact h1 _ (by simpa using hk) rfl
      · rw [h2 fun z => hn (by rw [List.length_cons, List.length_cons, Nat.succ_min_succ, List.take_succ_cons, List.take_succ_cons, z])]
        simp [ltL]
    · have ne : ¬ n = m := by simpa using e1
      have fin' : Q (decide (n < m)) s := q _ (fun k hk hm => by
        rw [List.length_cons, List.length_cons, Nat.succ_min_succ] at hm
        subst hm
        simp only [List.take_succ_cons, List.cons.injEq] at hk
        exact absurd hk.1 ne) fun _ => by simp [ltL, ne]
      refine PySem.W.kat_no ?_
      cases hb : (b && i == 0) with
      | true => exact oneLt_int fin'
      | false => exact PySem.W.kat_one _ _ (PyProof.Rows.lt_int fin')
theorem ltL_fin : ∀ {ns ms : List Int}, ns.take (min ns.length ms.length) = ms.take (min ns.length ms.length) → ltL ns ms = decide (ns.length < ms.length)
  | [], [], _ => rfl
  | [], _ :: _, _ => by simp [ltL]
  | _ :: _, [], _ => by simp [ltL]
  | x :: xs, y :: ys, h => by
    rw [List.length_cons, List.length_cons, Nat.succ_min_succ, List.take_succ_cons, List.take_succ_cons, List.cons.injEq] at h
    unfold ltL
    rw [if_pos h.1, ltL_fin h.2, List.length_cons, List.length_cons]
    simp
theorem tup_cmp {vs : List Value} {k : Value → List Int} {c : Bool} (hp : ∀ v ∈ vs, TupV s.heap v (k v)) : SrtO.Cmp prog w A s (tuples' c) (fun p => p.1 ∈ vs) (SrtO.lt2 fun v u => ltL (k v) (k u)) := by
  intro p q mp mq
  have g1 := hp _ mp
  have g2 := hp _ mq
  show wpAny (model prog w) A (keyLt' (tuples' c) p.1 q.1) (fun r s' => s' = s ∧ r = ltL (k p.1) (k q.1)) (fun _ _ => False) s
  generalize k p.1 = ns at g1 ⊢
  generalize k q.1 = ms at g2 ⊢
  obtain ⟨a, o, xs, n, e, ho, hc, hd, hi⟩ := g1
  obtain ⟨a', o', ys, n', e', ho', hc', hd', hi'⟩ := g2
  rw [e, e']
  refine PySem.W.kat_lt ho hd ho' hd' (lexI 0 hi hi' (fun _ => trivial) fun r h1 h2 => ⟨rfl, ?_⟩)
  by_cases z : ns.take (min ns.length ms.length) = ms.take (min ns.length ms.length)
  · rw [h1 _ z rfl, ltL_fin z, ← hi.length, ← hi'.length, Array.length_toList, Array.length_toList]
  · exact h2 z
theorem tup_firsts {h : Heap} {k : Value → List Int} : ∀ {vs : List Value}, (∀ v ∈ vs, TupV h v (k v) ∧ k v ≠ []) → ∃ fs : List Value, PySem.W.KatTups h vs fs ∧ fs.length = vs.length ∧ ∀ f ∈ fs, ∃ x t, f = Value.int x t
  | [], _ => ⟨[], trivial, rfl, fun _ z => nomatch z⟩
  | v :: vs, hp => by
    obtain ⟨fs, t1, t2, t3⟩ := tup_firsts (vs := vs) fun u hu => hp u (by simp [hu])
    obtain ⟨⟨a, o, xs, n, e, ho, hc, hd, hi⟩, ne⟩ := hp v (by simp)
    generalize k v = ns at hi ne
    obtain ⟨m, t, us, ms, e1⟩ : ∃ m t us ms, xs.toList = Value.int m t :: us ∧ ns = m :: ms := by
      generalize xs.toList = l at hi
      cases hi with
      | nil => exact absurd rfl ne
      | cons m t r => exact ⟨m, t, _, _, rfl, rfl⟩
    refine ⟨.int m t :: fs, ⟨⟨a, o, xs, n, e, ho, hc, hd, ?_⟩, t1⟩, by simp [t2], fun f hf => ?_⟩
    · rw [← Array.getElem?_toList, e1.1]
      rfl
    · rcases List.mem_cons.mp hf with rfl | hf
      · exact ⟨m, t, rfl⟩
      · exact t3 f hf
theorem tup_sortable {a : Addr} {vs : List Value} {k : Value → List Int} (h0 : 0 < vs.length) (hp : ∀ v ∈ vs, TupV s.heap v (k v) ∧ k v ≠ []) (ha : ∀ o, s.heap.get? a = some o → o.cls ≠ .type "tuple") : SrtO.SortableO prog w A s a vs fun v u => ltL (k v) (k u) := by
  intro g kp
  have hq : ∀ v ∈ vs, TupV g v (k v) ∧ k v ≠ [] := fun v hv => ⟨(hp v hv).1.at fun b o e c => kp b o (fun z => by subst z; exact ha o e c) e, (hp v hv).2⟩
  obtain ⟨fs, t1, t2, t3⟩ := tup_firsts hq
  refine ⟨tuples' true, fun Q E done => ?_, tup_cmp fun v hv => (hq v hv).1⟩
  refine PySem.W.kat_kind (T := .type "int") t1 (by omega) (fun f hf => ?_) (by rfl) ?_
  · obtain ⟨x, t, rfl⟩ := t3 f hf
    exact PySem.W.Looks.now
  · rw [show (Value.type "int" != Value.type "tuple") = true by decide +kernel]
    exact done
end
/-- sorted(xs), xs a list of tuples of whole numbers (none empty where there are two) -/
def rSortTs (K : PySem.W.Frag) : List V → Hp → VK → Prop := fun vs H Q => ∃ (a : Addr) (xs : List V) (k : V → List Int), vs = [V.ref a] ∧ SqL K H a xs ∧ (∀ x ∈ xs, ∃ t, x = V.ref t ∧ H t = some (.tup ((k x).map V.int)) ∧ (2 ≤ xs.length → k x ≠ [])) ∧
  ∀ ys p, ys.Pairwise (fun x y => ltL (k y) (k x) = false) → ys.Perm xs → H p = none → Q (.ref p) (upd H p (.lst ys))
theorem ints_vals : ∀ {ns : List Int} {us : List Value}, Vals (ns.map V.int) us → IntsAre us ns
  | [], _, .nil => .nil
  | n :: ns, _, .cons r t => by
    obtain ⟨u, rfl⟩ := r
    exact .cons n u (ints_vals t)
section
variable {X : Cx}
theorem cr_sortTs : CallR X (.builtin "sorted") (rSortTs X.K) := by
  intro pins s σ H vs us Q I r ⟨a, xs, k, e0, hs, hx, q⟩
  subst e0
  obtain ⟨its, rv, hl, hz⟩ := I.list hs
  obtain ⟨u, e3, ru⟩ := vals1 r
  subst e3
  obtain rfl : u = Value.ref a := ru
  obtain ⟨e1, e2⟩ := refs_back rv fun x m => (hx x m).imp fun t h => h.1
  have tv : ∀ v ∈ its, TupV s.heap v (k (backV v)) ∧ (2 ≤ xs.length → k (backV v) ≠ []) := fun v hv => by
    obtain ⟨t, rfl⟩ := e2 v hv
    have hm : V.ref t ∈ xs := by rw [e1]; exact List.mem_map.mpr ⟨_, hv, rfl⟩
    obtain ⟨t', e, ht, ne⟩ := hx _ hm
    cases e
    obtain ⟨_, its2, r2, o, ho, hc, n, hd⟩ := I.hok _ _ ht
    exact ⟨⟨t, o, _, n, rfl, ho, hc, hd, by rw [List.toList_toArray]; exact ints_vals r2⟩, ne⟩
  have zl : its.length = xs.length := by rw [rv.length]
  refine SrtO.sorted_ord (ltL_swo fun v => k (backV v)) hl.isList (by rw [zl]; exact hz) (fun h2 g b hb kk => ?_) fun out hs1 hs2 => ?_
  · refine tup_sortable (s := { s with heap := g }) (by omega) (fun v hv => ⟨(tv v hv).1.at fun c o e _ => (kk c o e).2, (tv v hv).2 (by omega)⟩) fun o e => ?_
    have e' : some o = some (seqObj "list" its.toArray 0) := e.symm.trans hb
    cases e'
    exact fun c => absurd (Value.type.inj c) (by decide)
  · obtain ⟨n, hn⟩ := PyProof.Rows.sortedAll_at s.heap its out.toArray
    have h3 : ∀ u ∈ out, ∃ b, u = Value.ref b := fun u hu => e2 u (hs2.perm.mem_iff.mp hu)
    have pm : (out.map backV).Perm xs := by rw [e1]; exact hs2.perm.map backV
    refine ⟨.ref (s.heap.objs.size + 1), upd H (s.heap.objs.size + 1) (.lst (out.map backV)), I.laid (t' := s.toks) (fun _ _ e => PyProof.Rows.sortedAll_old e) (Nat.le_succ _) ⟨by rw [pm.length_eq]; exact hz, out, n, vals_back h3, hn⟩, rfl, q _ _ ?_ pm (I.hok.fresh (Nat.le_succ _))⟩
    exact List.pairwise_map.mpr hs1
end
end Y

set_option Elab.async false
set_option linter.all false
set_option maxRecDepth 100000
namespace Y
open PySem PySem.Spec PyProof.Rows L2
theorem ltC_cons {x y : Nat} {xs ys : List Nat} : ltCps (x :: xs) (y :: ys) = true ↔ x < y ∨ (x = y ∧ ltCps xs ys = true) := by simp [ltCps]
theorem ltC_asym : ∀ {a b : List Nat}, ltCps a b = true → ltCps b a = false
  | [], [], h => by simp [ltCps] at h
  | [], _ :: _, _ => by simp [ltCps]
  | _ :: _, [], h => by simp [ltCps] at h
  | x :: xs, y :: ys, h => by
    rw [← Bool.not_eq_true, ltC_cons]
    rcases ltC_cons.mp h with h2 | ⟨rfl, h2⟩
    · rintro (z | ⟨z, _⟩) <;> omega
    · have := ltC_asym h2
      rintro (z | ⟨_, z⟩)
      · omega
      · rw [this] at z; cases z
theorem ltC_tr : ∀ {a b c : List Nat}, ltCps a b = true → ltCps b c = true → ltCps a c = true
  | [], _ :: _, _ :: _, _, _ => by simp [ltCps]
  | [], [], _, h, _ => by simp [ltCps] at h
  | _ :: _, [], _, h, _ => by simp [ltCps] at h
  | _, _ :: _, [], _, h => by simp [ltCps] at h
  | x :: xs, y :: ys, z :: zs, h1, h2 => by
    rw [ltC_cons] at *
    rcases h1 with h1 | ⟨rfl, h1⟩
    · rcases h2 with h2 | ⟨rfl, h2⟩
      · exact .inl (by omega)
      · exact .inl h1
    · rcases h2 with h2 | ⟨rfl, h2⟩
      · exact .inl h2
      · exact .inr ⟨rfl, ltC_tr h1 h2⟩
theorem ltC_tot : ∀ {a b : List Nat}, ltCps a b = false → ltCps b a = false → a = b
  | [], [], _, _ => rfl
  | [], _ :: _, h, _ => by simp [ltCps] at h
  | _ :: _, [], _, h => by simp [ltCps] at h
  | x :: xs, y :: ys, h1, h2 => by
    rw [← Bool.not_eq_true, ltC_cons] at h1 h2
    have e : x = y := by omega
    subst e
    rw [ltC_tot (a := xs) (b := ys) (Bool.not_eq_true _ ▸ fun z => h1 (.inr ⟨rfl, z⟩)) (Bool.not_eq_true _ ▸ fun z => h2 (.inr ⟨rfl, z⟩))]
theorem ltC_ntr {a b c : List Nat} (h1 : ltCps b a = false) (h2 : ltCps c b = false) : ltCps c a = false := by
  cases e : ltCps c a with
  | false => rfl
  | true =>
    cases e2 : ltCps a b with
    | true => rw [ltC_tr e e2] at h2; cases h2
    | false => rw [ltC_tot e2 h1] at e; rw [e] at h2; cases h2
def ltStr (x y : Str) : Bool := ltCps x.cps.toList y.cps.toList
theorem ltStr_tot {x y : Str} (h1 : ltStr x y = false) (h2 : ltStr y x = false) : x = y := by
  have e := ltC_tot h1 h2
  cases x; cases y
  simp at e
  rw [e]
def sortS (xs : List Str) : List Str := xs.mergeSort fun a b => !ltStr b a
theorem sortS_perm (xs : List Str) : (sortS xs).Perm xs := List.mergeSort_perm _ _
theorem sortS_pw (xs : List Str) : (sortS xs).Pairwise fun a b => ltStr b a = false := by
  have := List.pairwise_mergeSort (le := fun a b : Str => !ltStr b a) (fun a b c h1 h2 => by
    simp only [Bool.not_eq_true'] at *
    exact ltC_ntr h1 h2) (fun a b => by
    cases e : ltStr b a with
    | false => rfl
    | true =>
      have := ltC_asym e
      simp [ltStr, this]) xs
  exact this.imp fun h => by simpa using h
theorem sortS_of {xs ys : List Str} (p : ys.Perm xs) (h : ys.Pairwise fun a b => ltStr b a = false) : ys = sortS xs :=
  List.Perm.eq_of_pairwise (le := fun a b : Str => ltStr b a = false) (fun a b _ _ h1 h2 => ltStr_tot h2 h1) h (sortS_pw xs) (p.trans (sortS_perm xs).symm)
theorem rising_pw : ∀ {ys : List Str}, sortedS ys = true → ys.Pairwise fun a b => ltStr b a = false
  | [], _ => List.Pairwise.nil
  | [x], _ => List.pairwise_singleton _ _
  | x :: y :: r, h => by
    simp only [sortedS, risingS, Bool.and_eq_true, Bool.not_eq_true'] at h
    have ih := rising_pw (ys := y :: r) h.2
    refine List.pairwise_cons.mpr ⟨fun z hz => ?_, ih⟩
    rcases List.mem_cons.mp hz with rfl | hz
    · exact h.1
    · exact ltC_ntr h.1 ((List.pairwise_cons.mp ih).1 z hz)
def rSortSt (K : PySem.W.Frag) : List V → Hp → VK → Prop := fun vs H Q => ∃ (a : Addr) (xs : List Str), vs = [V.ref a] ∧ SqL K H a (xs.map V.str) ∧ ∀ p, H p = none → Q (.ref p) (upd H p (.lst ((sortS xs).map V.str)))
theorem cr_sortSt {X : Cx} : CallR X (.builtin "sorted") (rSortSt X.K) := by
  intro pins s σ H vs us Q I r ⟨a, xs, e0, hs, q⟩
  subst e0
  obtain ⟨its, rv, hl, hz⟩ := I.list hs
  rw [Vals.ref1 r]
  refine sorted_strsAny hl.isList rv.strs (by rw [← rv.length]; exact hz) fun out ys h1 h2 h3 => ?_
  obtain ⟨n, hn⟩ := PyProof.Rows.sortedAll_at s.heap its out
  have ey := sortS_of h2 (rising_pw h3)
  subst ey
  have zl : ((sortS xs).map V.str).length ≤ sizeLine := by rw [List.length_map, h2.length_eq]; rw [List.length_map] at hz; exact hz
  exact ⟨.ref _, upd H (s.heap.objs.size + 1) (.lst ((sortS xs).map V.str)), I.laid (t' := s.toks) (fun _ _ => PyProof.Rows.sortedAll_old) (Nat.le_succ _) ⟨zl, out.toList, n, vals_of_strs h1, hn⟩, rfl, q _ (I.hok.fresh (Nat.le_succ _))⟩
def intTup : D → Option (List Int)
  | .tup ds => intsOf ds
  | _ => none
def tupsOf : List D → Option (List (List Int))
  | [] => some []
  | d :: ds => match intTup d, tupsOf ds with
    | some n, some ns => some (n :: ns)
    | _, _ => none
def sortOk (xs : List (List Int)) : Bool := decide (xs.length < 2) || xs.all fun x => !x.isEmpty
def sortD : List D → R D
  | [.lst ds] => match intsOf ds with
    | some ns => .ok (.lst ((sortI ns).map D.int))
    | none => match strsOf ds with
    | some ss => .ok (.lst ((sortS ss).map D.str))
    | none => match tupsOf ds with
      | some xs => if sortOk xs = true then .ok (.lst ((sortL xs).map fun x => D.tup (x.map D.int))) else .stk
      | none => .stk
  | _ => .stk
def intV : V → Int
  | .int i => i
  | _ => 0
def keyV (H : Hp) : V → List Int
  | .ref t => match H t with
    | some (.tup ws) => ws.map intV
    | _ => []
  | _ => []
theorem ints_back (ns : List Int) : (ns.map V.int).map intV = ns := by
  rw [List.map_map]
  induction ns with
  | nil => rfl
  | cons x xs ih => simp [intV] at ih ⊢; exact ih
theorem reps_strs {K : PySem.W.Frag} {H : Hp} {P : Pr} : ∀ ns : List Str, Reps K H (ns.map D.str) P (ns.map V.str)
  | [] => Reps.nil
  | n :: ns => Reps.cons (by unfold Rep; rfl) (reps_strs ns)
section
variable {K : PySem.W.Frag} {X : Cx}
theorem tups_rep {H : Hp} {P : Pr} : ∀ {ds : List D} {xs : List (List Int)} {vs : List V}, tupsOf ds = some xs → Reps K H ds P vs → vs.map (keyV H) = xs ∧ ∀ v ∈ vs, ∃ t, v = V.ref t ∧ H t = some (.tup ((keyV H v).map V.int))
  | [], xs, vs, e, h => by simp [tupsOf] at e; subst e; rw [h.nil_iff]; simp
  | d :: ds, xs, vs, e, h => by
    obtain ⟨v, ws, rfl, h1, h2⟩ := h.cons_iff
    unfold tupsOf at e
    cases e1 : intTup d with
    | none => rw [e1] at e; simp at e
    | some n =>
      cases e2 : tupsOf ds with
      | none => rw [e1, e2] at e; simp at e
      | some ns =>
        rw [e1, e2] at e
        simp at e
        subst e
        obtain ⟨i1, i2⟩ := tups_rep e2 h2
        cases d <;> simp [intTup] at e1
        rename_i ds'
        unfold Rep at h1
        obtain ⟨t, us, rfl, ht, hr⟩ := h1
        rw [ints_rep e1 hr] at ht
        have kt : keyV H (.ref t) = n := by
          show (match H t with | some (.tup ws) => ws.map intV | _ => []) = n
          rw [ht]
          exact ints_back n
        refine ⟨by rw [List.map_cons, kt, i1], fun v hv => ?_⟩
        rcases List.mem_cons.mp hv with rfl | hv
        · exact ⟨t, rfl, by rw [kt]; exact ht⟩
        · exact i2 v hv
theorem cd_sort : CallR X (.builtin "sorted") (rDs X.K sortD) := by
  intro pins s σ H xs us Q I r ⟨P, ds, dz, hm, rs, e, out⟩
  unfold sortD at e
  split at e
  · split at e
    · rename_i ds0 _ ns ei
      refine cd_sortedI pins s σ H xs us Q I r ⟨P, _, dz, hm, rs, ?_, out⟩
      show (match intsOf ds0 with | some ns => R.ok (D.lst ((sortI ns).map D.int)) | none => .stk) = _
      rw [ei]
      exact e
    · split at e
      · rename_i ss es
        cases e
        obtain ⟨v, rfl, r1⟩ := rs.get1
        obtain ⟨a, vs, rfl, h1, h2⟩ := r1.lst
        rw [strs_rep es h2] at h1
        exact cr_sortSt pins s σ H _ us Q I r ⟨a, ss, rfl, SqL.of h1, fun p hp => out_lst hm out (fun _ _ => reps_strs _) p hp⟩
      split at e
      · rename_i nss et
        split at e
        · rename_i ok
          cases e
          obtain ⟨v, rfl, r1⟩ := rs.get1
          obtain ⟨a, vs, rfl, h1, h2⟩ := r1.lst
          obtain ⟨k1, k2⟩ := tups_rep et h2
          have lv : vs.length = nss.length := by rw [← k1, List.length_map]
          refine cr_sortTs pins s σ H _ us Q I r ⟨a, vs, keyV H, rfl, SqL.of h1, fun x hx => ?_, fun ys p pw pm hp => ?_⟩
          · obtain ⟨t, e1, e2⟩ := k2 x hx
            refine ⟨t, e1, e2, fun h2' => ?_⟩
            unfold sortOk at ok
            rw [decide_eq_false (by omega), Bool.false_or, List.all_eq_true] at ok
            have := ok (keyV H x) (by rw [← k1]; exact List.mem_map.mpr ⟨x, hx, rfl⟩)
            intro z
            rw [z] at this
            simp at this
          · have sm : Same H (upd H p (.lst ys)) := fun b o eb => by rw [upd_ne (ne_of_none eb hp)]; exact eb
            have es : ys.map (keyV H) = sortL nss := sortL_of (by rw [← k1]; exact pm.map _) (List.pairwise_map.mpr pw)
            refine out _ _ sm ?_ fun _ b eb => by cases eb; exact hp
            unfold Rep
            refine ⟨p, ys, rfl, fun z => (hm p z).some hp, upd_same, ?_⟩
            rw [← es, List.map_map]
            have : ∀ (zs : List V) (P' : Pr), (∀ z ∈ zs, z ∈ vs) → Reps X.K (upd H p (.lst ys)) (zs.map ((fun x => D.tup (x.map D.int)) ∘ keyV H)) P' zs := fun zs P' => by
              induction zs with
              | nil => intro _; exact Reps.nil
              | cons z zs ih =>
                intro hz
                obtain ⟨t, e1, e2⟩ := k2 z (hz z (by simp))
                refine Reps.cons ?_ (ih fun y hy => hz y (by simp [hy]))
                show Rep X.K _ (D.tup ((keyV H z).map D.int)) P' z
                unfold Rep
                exact ⟨t, _, e1, sm _ _ e2, reps_ints _⟩
            exact this ys _ fun z hz => pm.mem_iff.mp hz
        · cases e
      · cases e
  · cases e
end
theorem tups_map : ∀ xs : List (List Int), tupsOf (xs.map fun x => D.tup (x.map D.int)) = some xs
  | [] => rfl
  | x :: xs => by
    simp only [List.map_cons, tupsOf, intTup, ints_map, tups_map xs]
@[simp] theorem d_sortN {xs : List Int} : sortD [.lst (xs.map D.int)] = .ok (.lst ((sortI xs).map D.int)) := by
  show (match intsOf (xs.map .int) with | some ns => R.ok (D.lst ((sortI ns).map D.int)) | none => _) = _
  rw [ints_map]
theorem sortD_tups {x : List Int} {xs : List (List Int)} (h : sortOk (x :: xs) = true) : sortD [.lst ((x :: xs).map fun x => D.tup (x.map D.int))] = .ok (.lst ((sortL (x :: xs)).map fun x => D.tup (x.map D.int))) := by
  have e : intsOf ((x :: xs).map fun x => D.tup (x.map D.int)) = none := rfl
  have e2 : strsOf ((x :: xs).map fun x => D.tup (x.map D.int)) = none := rfl
  unfold sortD
  simp only [e, e2, tups_map, h, if_true]
end Y

set_option Elab.async false
set_option linter.all false
set_option maxRecDepth 100000
namespace Y
open PySem PySem.Spec PyProof.Rows L2
section
variable {X : Cx} {P0 : Pr} {O W U : List Nat} {E : EK} {c : Expr} {pos : Pos} {m : SM}
end
end Y

set_option Elab.async false
set_option linter.all false
set_option maxRecDepth 100000
namespace Y
open PySem PySem.Spec PyProof.Rows L2
section
variable {X : Cx} {P0 : Pr} {O W U : List Nat} {E : EK} {a e : Expr} {ma mb : EM} {pos : Pos}
theorem ce_globI {x : Str} {i : Int} (h : ∃ t, X.mg x = some (.int i t)) (hg : Gl X x := by rfl) (hd : (x == ("__debug__" : Str)) = false := by decide) : CEx X P0 O W E (.Name x pos) (cC (.int i)) :=
  h.elim fun t ht => ce_glob (v := .int i) (fun _ _ => by unfold Rep; rfl) rfl ⟨t, rfl⟩ ht hg hd
end
end Y

set_option Elab.async false
set_option linter.all false
set_option maxRecDepth 100000
namespace Y
open PySem PySem.Spec PyProof.Rows L2
section
variable {X : Cx} {P0 : Pr} {O W U : List Nat} {E : EK} {e : Expr} {ma : EM} {pos : Pos}
end
variable {ρ : Y.Env}
end Y

set_option Elab.async false
set_option linter.all false
set_option maxRecDepth 100000
namespace Y
open PySem PySem.Spec PyProof.Rows L2
section
variable {X : Cx}
end
end Y

set_option Elab.async false
set_option linter.all false
set_option maxRecDepth 100000
namespace Y
open PySem PySem.Spec PyProof.Rows L2
section
variable {K : PySem.W.Frag} {X : Cx} {P0 : Pr} {O W U : List Nat} {E : EK} {e : Expr} {ma : EM} {pos : Pos}
end
variable {ρ : Y.Env}
end Y

set_option Elab.async false
set_option linter.all false
set_option maxRecDepth 100000
namespace Y
open PySem PySem.Spec PyProof.Rows L2
variable {ρ : Y.Env}
@[simp] theorem e_rg1 {l : Bool} {m : EM} : cRg1 l m ρ = (m ρ >>= fun p => p.1.v.nox >>= fun d => match d with | .int n => (if rgB 0 n = true then R.ok (.fr (if l = true then .lst (rgD 0 n) else .tup (rgD 0 n)), p.2) else .stk) | _ => .stk) := by
  unfold cRg1; congr
@[simp] theorem e_popAt {i : Nat} {m : EM} : cPopAt i m ρ = ((lstAt i ρ).nox >>= fun _ => m ρ >>= fun p => p.1.v.nox >>= fun d => match d with | .int z => ((lstAt i p.2).nox >>= fun ds => popRes i ds z p.2) | _ => .stk) := by
  unfold cPopAt; congr
theorem rgB_of {n : Nat} (h : n ≤ 16777216) : rgB 0 n = true := by
  unfold rgB
  rw [rngOk_of (by omega) (by omega), rngOk_of (by omega) (by omega)]
  simp; omega
theorem rgD_nat {n : Nat} : rgD 0 n = (List.range n).map fun k : Nat => D.int (k : Nat) := by unfold rgD; simp
end Y

set_option Elab.async false
set_option linter.all false
set_option maxRecDepth 100000
namespace Y
open PySem PySem.Spec PyProof.Rows L2
inductive Kd where
  | l (a : Addr) | t (a : Addr) | s (z : Str)
def strV (z : Str) : List V := z.cps.toList.map fun c => V.str ⟨#[c]⟩
def Kd.has (K : PySem.W.Frag) (H : Hp) : Kd → List V → Prop
  | .l a, xs => SqL K H a xs
  | .t a, xs => SqT K H a xs
  | .s z, xs => xs = strV z
def Kd.val : Kd → V
  | .l a => .ref a
  | .t a => .ref a
  | .s z => .str z
def Kd.lo : Kd → Nat → Prop
  | .l a, n => a < n
  | .t a, n => a < n
  | .s _, _ => True
/-- the iterator it over it, i items told -/
def Kd.at (it : Addr) (tk : Tok) : Kd → Nat → Heap → Prop
  | .l a, i, h => h.IsListIter it a i
  | .t a, i, h => h.IsTupleIter it a i
  | .s z, i, h => h.IsStrIter it (strIterType z) z tk i
theorem Kd.at_ob {k : Kd} {it : Addr} {tk : Tok} {i : Nat} {h : Heap} (x : k.at it tk i h) : ∃ o, h.get? it = some o ∧ ∀ v, o.data ≠ .cell v := by
  cases k with
  | l a => obtain ⟨o, e, _, d⟩ := x; exact ⟨o, e, fun v q => by rw [d] at q; cases q⟩
  | t a => obtain ⟨o, e, _, d⟩ := x; exact ⟨o, e, fun v q => by rw [d] at q; cases q⟩
  | s z => obtain ⟨o, e, _, d⟩ := x; exact ⟨o, e, fun v q => by rw [d] at q; cases q⟩
theorem Kd.at_k {k : Kd} {it : Addr} {tk : Tok} {i : Nat} {h h' : Heap} (x : k.at it tk i h) (q : ∀ o, h.get? it = some o → h'.get? it = some o) : k.at it tk i h' := by
  cases k with
  | l a => obtain ⟨o, e, r⟩ := x; exact ⟨o, q o e, r⟩
  | t a => obtain ⟨o, e, r⟩ := x; exact ⟨o, q o e, r⟩
  | s z => obtain ⟨o, e, r⟩ := x; exact ⟨o, q o e, r⟩
theorem vals_at : ∀ {xs : List V} {us : List Value} {j : Nat} {u : Value}, Vals xs us → us[j]? = some u → ∃ x, xs[j]? = some x ∧ RelV x u
  | _, _, _, _, .nil, e => by simp at e
  | x :: xs, _, 0, _, .cons r _, e => by simp at e; subst e; exact ⟨x, rfl, r⟩
  | x :: xs, _, j + 1, _, .cons _ t, e => by simpa using vals_at (j := j) t (by simpa using e)
section
variable {X : Cx} {pins : List (Addr × Obj)} {σ : St} {H : Hp} {s : Shared}
theorem Kd.inj {k : Kd} {xs ys : List V} (I : Inv X pins σ H s) (h : k.has X.K H xs) (h2 : k.has X.K H ys) : xs = ys := by
  cases k with
  | l a => exact I.list_inj h h2
  | t a => exact I.tuple_inj h h2
  | s z => exact Eq.trans h (Eq.symm h2)
/-- what an iterator over it draws -/
structure Kd.Drw (X : Cx) (A : Around) (k : Kd) (it : Addr) (tk : Tok) (xs : List V) (fp : List Addr) (P : Nat → Value → Prop) (S : Nat → Heap → Prop) : Prop where
  dr : Draws X.prog X.w A it fp xs.length P S
  mem : it ∈ fp
  lo : ∀ b ∈ fp, b = it ∨ ∃ a, b = a ∧ (k = .l a ∨ k = .t a)
  back : ∀ j h, S j h → k.at it tk j h
  item : ∀ j v, P j v → ∃ x, xs[j]? = some x ∧ RelV x v
theorem Kd.draw {A : Around} {k : Kd} {it : Addr} {tk : Tok} {i : Nat} {xs : List V} (hh : A.handled = none) (I : Inv X pins σ H s) (h : k.has X.K H xs) (lo : ∀ a, k = .l a ∨ k = .t a → a ≠ it) (st : k.at it tk i s.heap) : ∃ fp P S, Kd.Drw X A k it tk xs fp P S ∧ S i s.heap := by
  cases k with
  | l a =>
    obtain ⟨its, rv, p, _⟩ := I.list h
    have hl : its.toArray.size = xs.length := by simp [rv.length]
    have D := Draws.list (prog := X.prog) (w := X.w) hh it a (lo a (.inl rfl)) its.toArray
    rw [hl] at D
    exact ⟨_, _, _, ⟨D, by simp, fun b hb => by simpa [eq_comm] using hb, fun j h z => z.1, fun j v z => by
      rw [List.getElem?_toArray] at z
      exact vals_at rv z⟩, st, p.isList⟩
  | t a =>
    obtain ⟨its, rv, p, _⟩ := I.tuple h
    have hl : its.toArray.size = xs.length := by simp [rv.length]
    have D := Draws.tuple (prog := X.prog) (w := X.w) hh it a (lo a (.inr rfl)) its.toArray
    rw [hl] at D
    exact ⟨_, _, _, ⟨D, by simp, fun b hb => by simpa [eq_comm] using hb, fun j h z => z.1, fun j v z => by
      rw [List.getElem?_toArray] at z
      exact vals_at rv z⟩, st, p⟩
  | s z =>
    have h : xs = strV z := h
    have hl : z.cps.size = xs.length := by rw [h]; simp [strV]
    have D := Draws.text (prog := X.prog) (w := X.w) hh it z tk
    rw [hl] at D
    exact ⟨_, _, _, ⟨D, by simp, fun b hb => .inl (by simpa using hb), fun j h z => z, fun j v ⟨c, u, e1, e2⟩ => by
      refine ⟨.str ⟨#[c]⟩, ?_, u, e2⟩
      rw [h, strV, List.getElem?_map, Array.getElem?_toList, e1]
      rfl⟩, st⟩
end
theorem ad {a b : Nat} (h : ¬ a = b) : @Ne Addr a b := h
def ItzG (K : PySem.W.Frag) (k1 k2 : Kd) : It :=
  ⟨fun i H => ∃ xs ys x y, k1.has K H xs ∧ k2.has K H ys ∧ xs[i]? = some x ∧ ys[i]? = some y,
    fun i H v H' => ∃ T x y, v = .ref T ∧ H T = none ∧ H' = upd H T (.tup [x, y]) ∧ (∀ xs, k1.has K H xs → xs[i]? = some x) ∧ ∀ ys, k2.has K H ys → ys[i]? = some y,
    fun i H => ∃ xs ys, k1.has K H xs ∧ k2.has K H ys ∧ i = min xs.length ys.length⟩
/-- five cells that lie apart, from n on -/
structure Cells5 (n : Nat) (k1 k2 : Kd) : Prop where
  lo1 : k1.lo n
  lo2 : k2.lo n
theorem Kd.lo_ne {k : Kd} {n : Nat} (h : k.lo n) (a : Nat) (e : k = .l a ∨ k = .t a) : a < n := by
  rcases e with rfl | rfl <;> exact h
abbrev fp5 (n : Nat) : List Addr := [n + 4, n + 2, n + 3, n, n + 1]
theorem fp5_cases {n b : Nat} (h : b ∈ fp5 n) : b = n + 4 ∨ b = n + 2 ∨ b = n + 3 ∨ b = n ∨ b = n + 1 := by simpa using h
def tnZ (n : Nat) (t1 t2 : Tok) (k1 k2 : Kd) (i : Nat) (h : Heap) : Prop :=
  IsZip h (n + 4) (n + 2) (n + 3) .none ∧ IsTupOf2 h (n + 2) (.ref n) (.ref (n + 1)) ∧ (∃ x y, IsTupOf2 h (n + 3) x y) ∧ k1.at n t1 i h ∧ k2.at (n + 1) t2 i h
theorem sep5 {X : Cx} {A : Around} {k1 k2 : Kd} {n : Nat} {t1 t2 : Tok} {xs ys : List V} {fp1 fp2 : List Addr} {P1 P2 : Nat → Value → Prop} {S1 S2 : Nat → Heap → Prop} (c : Cells5 n k1 k2)
    (d1 : Kd.Drw X A k1 n t1 xs fp1 P1 S1) (d2 : Kd.Drw X A k2 (n + 1) t2 ys fp2 P2 S2) : ZipSep2 (n + 4) (n + 2) (n + 3) n (n + 1) fp1 fp2 := by
  have o1 : ∀ b : Nat, b ∈ fp1 → b ≤ n := fun b hb => by
    rcases d1.lo b hb with rfl | ⟨a, rfl, e⟩
    · exact Nat.le_refl _
    · exact Nat.le_of_lt (Kd.lo_ne c.lo1 _ e)
  have o2 : ∀ b : Nat, b ∈ fp2 → b = n + 1 ∨ b < n := fun b hb => by
    rcases d2.lo b hb with rfl | ⟨a, rfl, e⟩
    · exact .inl rfl
    · exact .inr (Kd.lo_ne c.lo2 _ e)
  exact ⟨ad (by omega), ad (by omega), ad (by omega), ad (by omega), d1.mem, fun z => by have := o1 (n + 4) z; omega, fun z => by have := o1 (n + 3) z; omega, ad (by omega), d2.mem,
    fun z => by have := o2 (n + 4) z; omega, fun z => by have := o2 (n + 3) z; omega, fun z => by have := o2 n z; omega, fun z => by have := o1 (n + 1) z; omega⟩
theorem turn_zipG {P : Program} {w : World} {K : PySem.W.Frag} {elts : List Expr} {kk : Nat} {tpos : Pos} {k1 k2 : Kd} {n : Nat} {t1 t2 : Tok} (c : Cells5 n k1 k2) :
    Turn P w K (.Tuple elts kk tpos) (ItzG K k1 k2) (fp5 n) (n + 4) (tnZ n t1 t2 k1 k2) where
  mem := by simp
  obj := fun i h ⟨hz, hI, ⟨x, y, hO⟩, q1, q2⟩ b hb => by
    rcases fp5_cases hb with rfl | rfl | rfl | rfl | rfl
    · exact ⟨_, hz, fun v q => nomatch q⟩
    · exact ⟨_, hI, fun v q => nomatch q⟩
    · exact ⟨_, hO, fun v q => nomatch q⟩
    · exact Kd.at_ob q1
    · exact Kd.at_ob q2
  keep := fun i h h' ⟨hz, hI, ⟨x, y, hO⟩, q1, q2⟩ k => ⟨k _ (by simp) _ hz, k _ (by simp) _ hI, ⟨x, y, k _ (by simp) _ hO⟩, Kd.at_k q1 (k _ (by simp)), Kd.at_k q2 (k _ (by simp))⟩
  item := by
    intro X hP hw hK hc i pins s σ H E I hf ⟨hz, hI, ⟨x0, y0, hO⟩, q1, q2⟩ ⟨xs, ys, x, y, g1, g2, ex, ey⟩
    subst hP hw hK
    have hh : X.A.in1.handled = none := by simp [I.ok.hd hc]
    obtain ⟨fp1, P1, S1, d1, s1⟩ := Kd.draw (A := X.A.in1) hh I g1 (fun a e => ad (by have := Kd.lo_ne c.lo1 a e; omega)) q1
    obtain ⟨fp2, P2, S2, d2, s2⟩ := Kd.draw (A := X.A.in1) hh I g2 (fun a e => ad (by have := Kd.lo_ne c.lo2 a e; omega)) q2
    have hzl : n + 4 < s.heap.objs.size := Heap.lt_size hz
    refine wpAny_pyNext_zipD2_item (sep5 c d1 d2) d1.dr d2.dr hz hI hO s1 s2 (List.getElem?_eq_some_iff.mp ex).1 (List.getElem?_eq_some_iff.mp ey).1 fun u1 u2 h' tk p1 p2 z' O' s1' s2' hT hsz hk => ?_
    obtain ⟨x', ex', r1⟩ := d1.item _ _ p1
    obtain ⟨y', ey', r2⟩ := d2.item _ _ p2
    rw [ex] at ex'; cases ex'
    rw [ey] at ey'; cases ey'
    refine ⟨_, rfl, wpAny_letOwnedTupleGo_zip (s := { s with heap := h', toks := tk }) z' fun h2 z2 sb => ?_⟩
    have hT2 : h2.get? s.heap.objs.size = some { cls := .type "tuple", data := .seq #[u1, u2] } := (sb.2 _ (ad (by omega))).trans hT
    have new : ObjOk X.prog X.w (upd H s.heap.objs.size (.tup [x, y])) h2 s.heap.objs.size (.tup [x, y]) := ⟨by show 2 ≤ sizeLine; decide, [u1, u2], .cons r1 (.cons r2 .nil), ⟨_, hT2, rfl, _, rfl⟩⟩
    have I1 : Inv X pins σ (upd H s.heap.objs.size (.tup [x, y])) { s with heap := h2, toks := tk } :=
      I.turnedNew (t' := tk) (ch := fp5 n) (fun b o hb q => (sb.2 b fun e => hb (by simp [e])).trans (hk b o (fun e => hb (by simp [e])) (fun e => hb (by simp [e])) (fun e => hb (by simp [e])) (fun e => hb (by simp [e])) q)) hf (Nat.le_refl _) new
    refine ⟨.ref s.heap.objs.size, _, I1, rfl, ⟨_, x, y, rfl, I.hok.fresh (Nat.le_refl _), rfl, fun l hl => by rw [Kd.inj I hl g1]; exact ex, fun l hl => by rw [Kd.inj I hl g2]; exact ey⟩, ⟨z2, ?_, ⟨u1, u2, ?_⟩, ?_, ?_⟩, fun b hb => ?_⟩
    · exact (sb.2 _ (ad (by omega))).trans (hk _ _ (ad (by omega)) (ad (by omega)) (ad (by omega)) (ad (by omega)) hI)
    · exact (sb.2 _ (ad (by omega))).trans O'
    · exact Kd.at_k (d1.back _ _ s1') fun o q => (sb.2 _ (ad (by omega))).trans q
    · exact Kd.at_k (d2.back _ _ s2') fun o q => (sb.2 _ (ad (by omega))).trans q
    · rw [upd_ne (by rcases fp5_cases hb with e | e | e | e | e <;> (rw [e]; exact ad (by omega)))]
      exact (hf b hb).1
  done := by
    intro X hP hw hK hc i pins s σ H E I hf ⟨hz, hI, ⟨x0, y0, hO⟩, q1, q2⟩ ⟨xs, ys, g1, g2, ei⟩
    subst hP hw hK
    have hh : X.A.in1.handled = none := by simp [I.ok.hd hc]
    obtain ⟨fp1, P1, S1, d1, s1⟩ := Kd.draw (A := X.A.in1) hh I g1 (fun a e => ad (by have := Kd.lo_ne c.lo1 a e; omega)) q1
    obtain ⟨fp2, P2, S2, d2, s2⟩ := Kd.draw (A := X.A.in1) hh I g2 (fun a e => ad (by have := Kd.lo_ne c.lo2 a e; omega)) q2
    exact wpAny_pyNext_zipD2_end (sep5 c d1 d2) d1.dr d2.dr hz hI hO s1 s2 (by omega) (by omega) (by omega) fun h' tk hk => ⟨rfl, I.turnedL (t' := tk) (ch := fp5 n) (fun b o hb q =>
      hk b o (fun e => hb (by simp [e])) (fun e => hb (by simp [e])) (fun e => hb (by simp [e])) (fun e => hb (by simp [e])) q) hf⟩
  self := fun A i s Q E st h => wpAny_pyIter_zip st.1 h
section
variable {X : Cx} {pins : List (Addr × Obj)} {σ : St} {H : Hp} {s : Shared}
theorem Kd.begins {k : Kd} {xs : List V} {u : Value} (I : Inv X pins σ H s) (h : k.has X.K H xs) (r : RelV k.val u) : ∃ (o : Obj) (G : Heap → Prop) (tk : Tok), Begins u o G ∧ G s.heap ∧ k.lo s.heap.objs.size ∧ ∀ n h', h'.get? n = some o → k.at n tk 0 h' := by
  cases k with
  | l a =>
    obtain ⟨its, rv, p, _⟩ := I.list h
    cases r
    exact ⟨_, _, 0, begins_list a its.toArray, p.isList, p.lt, fun n h' e => ⟨_, e, rfl, rfl⟩⟩
  | t a =>
    obtain ⟨its, rv, p, _⟩ := I.tuple h
    cases r
    have p : s.heap.IsTuple a its.toArray := p
    obtain ⟨o, e, _⟩ := id p
    exact ⟨_, _, 0, begins_tuple a its.toArray, p, Heap.lt_size e, fun n h' e => ⟨_, e, rfl, rfl⟩⟩
  | s z =>
    obtain ⟨tk, rfl⟩ := r
    exact ⟨_, _, tk, begins_text z tk, trivial, trivial, fun n h' e => ⟨_, e, rfl, rfl⟩⟩
def iZipG (K : PySem.W.Frag) (ta : TA) : TI := fun σ H R => ta σ H fun vs H1 => ∃ k1 k2 xs ys, vs = [Kd.val k1, Kd.val k2] ∧ k1.has K H1 xs ∧ k2.has K H1 ys ∧ R (ItzG K k1 k2) H1
theorem pi_zipG {e e2 : Expr} {ta : TA} {p pos tpos : Pos} {elts : List Expr} {kk : Nat} (hg : Gl X "zip") (hm : X.mg "zip" = none) (ha : PA X [e, e2] ta)
    (hs : starEach [e, e2] X.env = (false, eval e X.env) :: starEach [e2] X.env := by rfl) (hpl : (backTo pos (starEach [e2] X.env)).any (·.1) = false := by rfl) :
    PI X (.Tuple elts kk tpos) (.Call (.Name "zip" p) [e, e2] [] pos) (iZipG X.K ta) := ⟨fun pins s σ H R I h =>
  Call_ (ld_blt I hg hm PyProof.Rows.boot_zip (PyProof.Rows.callWith_type1 (thn (ha.run pos pins s σ H _ I h) fun us s1 ⟨vs, H1, I1, r1, q1⟩ => by
    obtain ⟨k1, k2, xs, ys, ex, h1, h2, q⟩ := q1
    subst ex
    obtain ⟨u1, us1, rfl, r2, r3⟩ : ∃ u us', us = u :: us' ∧ RelV k1.val u ∧ Vals [k2.val] us' := by cases r1 with | cons a b => exact ⟨_, _, rfl, a, b⟩
    obtain ⟨u2, rfl, r4⟩ := vals1 r3
    obtain ⟨o1, G1, tk1, b1, g1, l1, m1⟩ := Kd.begins I1 h1 r2
    obtain ⟨o2, G2, tk2, b2, g2, l2, m2⟩ := Kd.begins I1 h2 r4
    refine zip_begins2 b1 b2 g1 g2 fun h' hz hI hO e1 e2 hsz hk => wpAny_pyIter_zip hz ?_
    have I2 : Inv X pins σ H1 { s1 with heap := h' } := I1.kept (t' := s1.toks) hk
    refine ⟨s1.heap.objs.size + 4, fp5 s1.heap.objs.size, tnZ s1.heap.objs.size tk1 tk2 k1 k2, _, H1, rfl, I2, turn_zipG ⟨l1, l2⟩, ⟨hz, hI, ⟨_, _, hO⟩, m1 _ _ e1, m2 _ _ e2⟩, fun b hb => ?_, q⟩
    have le : s1.heap.objs.size ≤ b := by rcases fp5_cases hb with e | e | e | e | e <;> (rw [e]; first | exact Nat.le_refl _ | exact Nat.le_add_right _ _)
    exact I1.fpOk le (I1.hok.fresh le)) hs hpl))⟩
end
def kdOf : D → V → Option Kd
  | .lst _, .ref a => some (.l a)
  | .arg _, .ref a => some (.l a)
  | .tup _, .ref a => some (.t a)
  | .str z, _ => some (.s z)
  | .ftu _, .ref a => some (.t a)
  | _, _ => none
section
variable {K : PySem.W.Frag} {P0 : Pr} {O W : List Nat} {ρ ρ' : Env} {σ σ' : St} {H H' Hs : Hp} {h h2 : Hd} {d d2 : D} {v : V}
/-- a datum that is walked: its kind and the items' values -/
theorem RepW.kd {ds : List D} {P : Pr} (r : RepW K H d P v) (e : itD d = .ok ds) : ∃ k vs, v = Kd.val k ∧ k.has K H vs ∧ Reps K H ds P vs ∧ kdOf d v = some k := by
  cases d <;> simp only [itD, R.ok.injEq, reduceCtorEq] at e
  · subst e
    rename_i z
    obtain rfl := r.str
    refine ⟨.s z, strV z, rfl, rfl, ?_, rfl⟩
    unfold strV
    generalize z.cps.toList = l
    induction l with
    | nil => exact Reps.nil
    | cons c l ih => exact Reps.cons (by unfold Rep; rfl) ih
  · subst e
    obtain ⟨a, vs, rfl, t1, t2⟩ := r.tup
    exact ⟨.t a, vs, rfl, SqT.of t1, t2, rfl⟩
  · subst e
    obtain ⟨a, vs, rfl, t1, t2⟩ := r.lst
    exact ⟨.l a, vs, rfl, SqL.of t1, t2, rfl⟩
  · subst e
    obtain ⟨a, rfl, t1⟩ := r.arg
    exact ⟨.l a, _, rfl, t1, reps_ints _, rfl⟩
  · subst e
    obtain ⟨a, vs, o, rfl, t1, _, t2⟩ := r.ftu
    exact ⟨.t a, vs, rfl, SqT.fz t1, t2, rfl⟩
/-- .. from what holds of it -/
theorem Hold.kd {ds : List D} {k : Kd} (S : Sim K P0 O W ρ σ H) (o : Hold K O h d v P0 ρ σ H) (e : itD d = .ok ds) (ek : kdOf d v = some k) : ∃ vs, k.has K H vs ∧ Reps K H ds (FA P0 O σ) vs := by
  obtain ⟨k', vs, _, h1, h2, h3⟩ := (o.rep S).kd e
  rw [ek] at h3; cases h3
  exact ⟨vs, h1, h2⟩
theorem src_zipG {k1 k2 : Kd} {ds es : List D} {w : V} (hd : itD d = .ok ds) (he : itD d2 = .ok es) (e1 : kdOf d v = some k1) (e2 : kdOf d2 w = some k2) :
    Src K O W (pairsD ds es) (h.ws ++ h2.ws) (ItzG K k1 k2) (fun P0 ρ σ H => Hold K O h d v P0 ρ σ H ∧ Hold K O h2 d2 w P0 ρ σ H) where
  go := fun P0 i ρ σ H S ok hi => by
    obtain ⟨vs, a1, a2⟩ := ok.1.kd S hd e1
    obtain ⟨vs2, b1, b2⟩ := ok.2.kd S he e2
    rw [pairsD_len, ← a2.length, ← b2.length] at hi
    exact ⟨vs, vs2, vs[i]'(by omega), vs2[i]'(by omega), a1, b1, List.getElem?_eq_getElem _, List.getElem?_eq_getElem _⟩
  stop := fun P0 ρ σ H S ok => by
    obtain ⟨vs, a1, a2⟩ := ok.1.kd S hd e1
    obtain ⟨vs2, b1, b2⟩ := ok.2.kd S he e2
    exact ⟨vs, vs2, a1, b1, by rw [pairsD_len, ← a2.length, ← b2.length]⟩
  yld := fun P0 i ρ σ H x H' d S ok hq y => by
    obtain ⟨vs, a1, a2⟩ := ok.1.kd S hd e1
    obtain ⟨vs2, b1, b2⟩ := ok.2.kd S he e2
    obtain ⟨x1, y1, q1, q2, rfl⟩ := pairsD_get hq
    obtain ⟨v1, q3, r1⟩ := a2.get q1
    obtain ⟨v2, q4, r2⟩ := b2.get q2
    obtain ⟨T, u1, u2, rfl, hT, rfl, e3, e4⟩ := y
    have e3 := e3 _ a1
    have e4 := e4 _ b1
    rw [q3] at e3; cases e3
    rw [q4] at e4; cases e4
    exact pair_rep S.dom hT r1 r2
  keep := fun P0 ρ σ H ρ' σ' H' S k w hw ok => ⟨ok.1.keep S k w fun i hi => hw i (List.mem_append_left _ hi), ok.2.keep S k w fun i hi => hw i (List.mem_append_right _ hi)⟩
  mem := fun P0 ρ σ H ok w z => (List.mem_append.mp z).elim (ok.1.mem w) (ok.2.mem w)
  grow := fun P0 P1 ρ σ H H' S w k ok => ⟨ok.1.grow S w k, ok.2.grow S w k⟩
end
def zipGD (x y : D) : R (List D) := do
  let xs ← itD x
  let ys ← itD y
  pure (pairsD xs ys)
def cZipG (m : AM) : IM := fun ρ => do
  let (hs, ρ1) ← m ρ
  match hs with
  | [h, h2] => do
    let x ← (h.d ρ1).nox
    let y ← (h2.d ρ1).nox
    let ps ← (zipGD x y).nox
    if szOk ps.length = true then pure ((ps, h.ws ++ h2.ws), ρ1) else .stk
  | _ => .stk
theorem zipGD_ok {x y : D} {ps : List D} (h : zipGD x y = .ok ps) : ∃ xs ys, itD x = .ok xs ∧ itD y = .ok ys ∧ ps = pairsD xs ys := by
  obtain ⟨xs, e1, h⟩ := R.ok_of h
  obtain ⟨ys, e2, h⟩ := R.ok_of h
  cases h
  exact ⟨xs, ys, e1, e2, rfl⟩
section
variable {X : Cx} {P0 : Pr} {O W : List Nat} {E : EK} {a b c e tg : Expr} {es : List Expr} {ma mb mc : EM} {ms : AM} {pos : Pos}
theorem ci_zipG {p tpos : Pos} {elts : List Expr} {kk : Nat} (hm : X.mg "zip" = none) (ha : CA X P0 O W E [a, b] ms) (hg : Gl X "zip" := by rfl) (hs : starEach [a, b] X.env = (false, eval a X.env) :: starEach [b] X.env := by rfl) (hpl : (backTo pos (starEach [b] X.env)).any (·.1) = false := by rfl) :
    CI X P0 O W E (.Tuple elts kk tpos) (.Call (.Name "zip" p) [a, b] [] pos) (cZipG ms) := PI.imp (pi_zipG hg hm ha hs hpl) fun σ H _ ⟨ρ, S, h⟩ => by
  refine ⟨ρ, S, h.of_bind.mono fun ⟨hs, ρ1⟩ q vs H1 S1 k1 r1 => ?_⟩
  match hs, r1, q with
  | [h, h2], r1, q =>
    obtain ⟨v, ws, rfl, t1, t2⟩ := r1
    obtain ⟨w, us, rfl, t3, t4⟩ := t2
    have t4 : us = [] := t4
    subst t4
    obtain ⟨x, ex, q1⟩ := Res.of_nox (show Res E W σ H ((h.d ρ1).nox >>= _) _ from q)
    obtain ⟨y, ey, q2⟩ := q1.of_nox
    obtain ⟨ps, ep, q3⟩ := q2.of_nox
    clear q q1 q2
    obtain ⟨xs, ys, e1, e2, rfl⟩ := zipGD_ok ep
    by_cases c : szOk (pairsD xs ys).length = true
    · rw [if_pos c] at q3
      obtain ⟨c1, vs1, rfl, f1, _, g1⟩ := (t1.d S1 ex).kd e1
      obtain ⟨c2, vs2, rfl, f2, _, g2⟩ := (t3.d S1 ey).kd e2
      exact ⟨c1, c2, vs1, vs2, rfl, f1, f2, q3 _ H1 _ S1 k1 (src_zipG e1 e2 g1 g2) ⟨t1.hold ex, t3.hold ey⟩ (of_decide_eq_true c)⟩
    · rw [if_neg c] at q3
      exact q3.elim
  | [], _, q => exact q.elim
  | [_], _, q => exact q.elim
  | _ :: _ :: _ :: _, _, q => exact q.elim
end
section
variable {ρ : Y.Env}
@[simp] theorem e_zipG {m : AM} : cZipG m ρ = (m ρ >>= fun p => match p.1 with | [h, h2] => ((h.d p.2).nox >>= fun x => (h2.d p.2).nox >>= fun y => (zipGD x y).nox >>= fun ps => if szOk ps.length = true then R.ok ((ps, h.ws ++ h2.ws), p.2) else .stk) | _ => .stk) := by
  unfold cZipG; congr
@[simp] theorem d_zipG {x y : D} : zipGD x y = (itD x >>= fun xs => itD y >>= fun ys => R.ok (pairsD xs ys)) := id rfl
end
def IteG (K : PySem.W.Frag) (k : Kd) : It :=
  ⟨fun i H => ∃ xs x, k.has K H xs ∧ xs[i]? = some x, fun i H v H' => ∃ T x, v = .ref T ∧ H T = none ∧ H' = upd H T (.tup [.int (i : Nat), x]) ∧ ∀ xs, k.has K H xs → xs[i]? = some x, fun i H => ∃ xs, k.has K H xs ∧ i = xs.length⟩
abbrev fp2 (n : Nat) : List Addr := [n + 1, n]
def tnE (n : Nat) (t : Tok) (k : Kd) (i : Nat) (h : Heap) : Prop := (∃ old, IsEnum h (n + 1) n ((i : Nat) : Int) old) ∧ k.at n t i h
theorem turn_enumG {P : Program} {w : World} {K : PySem.W.Frag} {elts : List Expr} {kk : Nat} {tpos : Pos} {k : Kd} {n : Nat} {t : Tok} (c : k.lo n) :
    Turn P w K (.Tuple elts kk tpos) (IteG K k) (fp2 n) (n + 1) (tnE n t k) where
  mem := by simp
  obj := fun i h ⟨⟨old, he⟩, q1⟩ b hb => by
    have hb : b = n + 1 ∨ b = n := by simpa using hb
    rcases hb with rfl | rfl
    · exact ⟨_, he, fun v q => nomatch q⟩
    · exact Kd.at_ob q1
  keep := fun i h h' ⟨⟨old, he⟩, q1⟩ k => ⟨⟨old, k _ (by simp) _ he⟩, Kd.at_k q1 (k _ (by simp))⟩
  item := by
    intro X hP hw hK hc i pins s σ H E I hf ⟨⟨old, he⟩, q1⟩ ⟨xs, x, g1, ex⟩
    subst hP hw hK
    have hh : X.A.in1.handled = none := by simp [I.ok.hd hc]
    obtain ⟨fp1, P1, S1, d1, s1⟩ := Kd.draw (A := X.A.in1) hh I g1 (fun a e => ad (by have := Kd.lo_ne c a e; omega)) q1
    have hel : n + 1 < s.heap.objs.size := Heap.lt_size he
    have hef : n + 1 ∉ fp1 := fun z => by
      rcases d1.lo _ z with e | ⟨a, e, e2⟩
      · have e : n + 1 = n := e
        omega
      · have := Kd.lo_ne c a e2
        have e : n + 1 = a := e
        omega
    refine wpAny_pyNext_enum_itemD d1.dr he s1 (List.getElem?_eq_some_iff.mp ex).1 (ad (by omega)) hef fun u h' tk p1 ho s1' hT hsz hk => ?_
    obtain ⟨x', ex', r1⟩ := d1.item _ _ p1
    rw [ex] at ex'; cases ex'
    refine ⟨_, rfl, wpAny_letOwnedTupleGo_enum (s := { s with heap := h', toks := tk + 1 }) ho fun h2 he2 sb => ?_⟩
    have hT2 : h2.get? s.heap.objs.size = some { cls := .type "tuple", data := .seq #[.int i tk, u] } := (sb.2 _ (ad (by omega))).trans hT
    have new : ObjOk X.prog X.w (upd H s.heap.objs.size (.tup [.int (i : Nat), x])) h2 s.heap.objs.size (.tup [.int (i : Nat), x]) := ⟨by show 2 ≤ sizeLine; decide, [.int i tk, u], .cons ⟨_, rfl⟩ (.cons r1 .nil), ⟨_, hT2, rfl, _, rfl⟩⟩
    have I1 : Inv X pins σ (upd H s.heap.objs.size (.tup [.int (i : Nat), x])) { s with heap := h2, toks := tk + 1 } :=
      I.turnedNew (t' := tk + 1) (ch := fp2 n) (fun b o hb q => (sb.2 b fun e => hb (by simp [e])).trans (hk b o (fun e => hb (by simp [e])) (fun e => hb (by simp [e])) q)) hf (Nat.le_refl _) new
    refine ⟨.ref s.heap.objs.size, _, I1, rfl, ⟨_, x, rfl, I.hok.fresh (Nat.le_refl _), rfl, fun l hl => by rw [Kd.inj I hl g1]; exact ex⟩, ⟨⟨u, ?_⟩, ?_⟩, fun b hb => ?_⟩
    · have e1 : ((i + 1 : Nat) : Int) = (i : Int) + 1 := by omega
      rw [e1]; exact he2
    · exact Kd.at_k (d1.back _ _ s1') fun o q => (sb.2 _ (ad (by omega))).trans q
    · have hb' : b = n + 1 ∨ b = n := by simpa using hb
      rw [upd_ne (by rcases hb' with e | e <;> (rw [e]; exact ad (by omega)))]
      exact (hf b hb).1
  done := by
    intro X hP hw hK hc i pins s σ H E I hf ⟨⟨old, he⟩, q1⟩ ⟨xs, g1, ei⟩
    subst hP hw hK
    have hh : X.A.in1.handled = none := by simp [I.ok.hd hc]
    obtain ⟨fp1, P1, S1, d1, s1⟩ := Kd.draw (A := X.A.in1) hh I g1 (fun a e => ad (by have := Kd.lo_ne c a e; omega)) q1
    subst ei
    exact wpAny_pyNext_enum_endD d1.dr he s1 fun h' eb => ⟨rfl, I.turnedL (t' := s.toks) (ch := fp2 n) (fun b o hb q => eb b o (fun e => hb (by simp [e])) q) hf⟩
  self := fun A i s Q E ⟨⟨_, he⟩, _⟩ h => wpAny_pyIter_enum he h
open AutoSeq1 (wpAny_loadPart') in
set_option maxHeartbeats 1000000 in
theorem enum_newT (b : Addr) (ys : Array Value) (m : Nat) (dd : Option Addr) (sl : Array (Option Value)) : Meets (Builtin.«enumerate.__new__» ⟨[.type "enumerate", .ref b], []⟩) (fun _ R s => s.heap.get? b = some { cls := .type "tuple", dict := dd, data := .seq ys m, slots := sl } ∧
    R (.ok (.ret (.ref (s.heap.push { cls := .type "tuple_iterator", data := .fields #[.ref b, .int 0 0] }).objs.size))) { s with heap := (s.heap.push { cls := .type "tuple_iterator", data := .fields #[.ref b, .int 0 0] }).push { cls := .type "enumerate", data := .fields #[.none, .bool false, .ref s.heap.objs.size, rawInt 0, .none, .none] } }) :=
  .of_wp fun prog w A R s ⟨hb, q⟩ => by
    obtain ⟨hp, g, d, tk, os⟩ := s
    have z1 := sub_enumerate
    have hT : Heap.IsTuple (Shared.heap ⟨hp, g, d, tk, os⟩) b ys := ⟨_, hb, rfl, m, rfl⟩
    wp_walk using wpAny_loadPart' hb
    refine wpAny_stack_any fun st => wpAny_pure ?_
    split
    · rename_i c _ _ _ _ _
      cases (c == Value.type "enumerate") <;> (wp_walk using wpAny_loadPart' hb, wpAny_pyIter_tuple hT; exact ⟨_, rfl, q⟩)
    · wp_walk using wpAny_loadPart' hb, wpAny_pyIter_tuple hT
      exact ⟨_, rfl, q⟩
theorem call_enumT {prog : Program} {w : World} {A : Around} {E : Value → Shared → Prop} {s : Shared} {b : Addr} {ys : Array Value} {Q : Value → Shared → Prop} (hT : s.heap.IsTuple b ys)
    (q : ∀ h', IsEnum h' (s.heap.objs.size + 1) s.heap.objs.size 0 .none → h'.IsTupleIter s.heap.objs.size b 0 → (∀ c o, s.heap.get? c = some o → h'.get? c = some o) → Q (.ref (s.heap.objs.size + 1)) { s with heap := h' }) :
    wpAny (model prog w) A (call (.type "enumerate") [.ref b]) Q E s := by
  obtain ⟨⟨cls, dd, data, sl⟩, hb, ec, m, ed⟩ := hT
  simp only at ec ed
  subst ec ed
  refine callType_new F.called_enumerate (by decide) (F.typeCall_enumerate_1 _) (F.newCall_enumerate_1 _) (fun obj => F.args_object_init_2 obj _) F.entry_enumerate_new (enum_newT b ys m dd sl) ⟨hb, ?_⟩
  have hz : (s.heap.push { cls := .type "tuple_iterator", data := .fields #[.ref b, .int 0 0] }).objs.size = s.heap.objs.size + 1 := Heap.size_push ..
  have he : IsEnum ((s.heap.push { cls := .type "tuple_iterator", data := .fields #[.ref b, .int 0 0] }).push { cls := .type "enumerate", data := .fields #[.none, .bool false, .ref s.heap.objs.size, rawInt 0, .none, .none] }) (s.heap.objs.size + 1) s.heap.objs.size 0 .none := by
    rw [← hz]
    exact Heap.get?_push_size _ rfl
  show _ ∧ _
  rw [hz]
  exact ⟨⟨_, he, rfl⟩, q _ he ⟨_, Heap.get?_push_of_some _ (Heap.get?_push_size _ rfl), rfl, rfl⟩ fun c o x => Heap.get?_push_of_some _ (Heap.get?_push_of_some _ x)⟩
section
variable {X : Cx} {P0 : Pr} {O W : List Nat} {E : EK} {a b c e tg : Expr} {es : List Expr} {ma mb mc : EM} {ms : AM} {pos : Pos}
def iEnumG (K : PySem.W.Frag) (ta : TA) : TI := fun σ H R => ta σ H fun vs H1 => ∃ k xs, vs = [Kd.val k] ∧ k.has K H1 xs ∧ R (IteG K k) H1
theorem pi_enumG {ta : TA} {p tpos : Pos} {elts : List Expr} {kk : Nat} (hg : Gl X "enumerate") (hm : X.mg "enumerate" = none) (ha : PA X [e] ta) (hs : starEach [e] X.env = [(false, eval e X.env)] := by rfl) :
    PI X (.Tuple elts kk tpos) (.Call (.Name "enumerate" p) [e] [] pos) (iEnumG X.K ta) := ⟨fun pins s σ H R I h =>
  Call_ (ld_blt I hg hm boot_enumerate (PyProof.Rows.callWith_type1 (thn (ha.run pos pins s σ H _ I h) fun us s1 ⟨vs, H1, I1, r1, q1⟩ => by
    obtain ⟨k, xs, ex, h1, q⟩ := q1
    subst ex
    obtain ⟨u, rfl, r2⟩ := vals1 r1
    have fin : ∀ (tk : Tok) (h' : Heap), k.lo s1.heap.objs.size → IsEnum h' (s1.heap.objs.size + 1) s1.heap.objs.size 0 .none → k.at s1.heap.objs.size tk 0 h' → (∀ c o, s1.heap.get? c = some o → h'.get? c = some o) → PIE X pins σ (.Tuple elts kk tpos) R (.ref (s1.heap.objs.size + 1)) { s1 with heap := h' } := fun tk h' lo he hit hk =>
      ⟨s1.heap.objs.size + 1, fp2 s1.heap.objs.size, tnE s1.heap.objs.size tk k, _, H1, rfl, I1.kept (t' := s1.toks) hk, turn_enumG lo, ⟨⟨.none, he⟩, hit⟩, fun b hb => by
        have hb' : b = s1.heap.objs.size + 1 ∨ b = s1.heap.objs.size := by simpa using hb
        have le : s1.heap.objs.size ≤ b := by rcases hb' with e | e <;> (rw [e]; first | exact Nat.le_refl _ | exact Nat.le_add_right _ _)
        exact I1.fpOk le (I1.hok.fresh le), q⟩
    cases k with
    | l a =>
      obtain ⟨its, rv, p, _⟩ := I1.list h1
      cases r2
      exact call_enumerate_list p.isList fun h' he hit hsz hk => wpAny_pyIter_enum he (fin 0 h' p.lt he hit hk)
    | t a =>
      obtain ⟨its, rv, p, _⟩ := I1.tuple h1
      cases r2
      have p : s1.heap.IsTuple a its.toArray := p
      obtain ⟨o, e, _⟩ := id p
      exact call_enumT p fun h' he hit hk => wpAny_pyIter_enum he (fin 0 h' (Heap.lt_size e) he hit hk)
    | s z =>
      obtain ⟨tk, rfl⟩ := r2
      exact call_enumerate_str fun h' he hit hsz hk => wpAny_pyIter_enum he (fin tk h' trivial he hit hk)) hs rfl))⟩
def numD (ds : List D) : List D := pairsD ((List.range ds.length).map fun i => D.int (i : Nat)) ds
section
variable {K : PySem.W.Frag} {ρ ρ' : Env} {σ σ' : St} {H H' Hs : Hp} {h h2 : Hd} {d d2 : D} {v : V}
theorem src_enumG {k : Kd} {ds : List D} (hd : itD d = .ok ds) (e1 : kdOf d v = some k) : Src K O W (numD ds) h.ws (IteG K k) (Hold K O h d v) where
  go := fun P0 i ρ σ H S ok hi => by
    obtain ⟨vs, a1, a2⟩ := ok.kd S hd e1
    unfold numD at hi
    rw [pairsD_len, ← a2.length] at hi
    have hi : i < vs.length := by simpa using hi
    exact ⟨vs, vs[i], a1, List.getElem?_eq_getElem hi⟩
  stop := fun P0 ρ σ H S ok => by
    obtain ⟨vs, a1, a2⟩ := ok.kd S hd e1
    exact ⟨vs, a1, by unfold numD; rw [pairsD_len, ← a2.length]; simp⟩
  yld := fun P0 i ρ σ H x H' d S ok hq y => by
    obtain ⟨vs, a1, a2⟩ := ok.kd S hd e1
    have hi := (List.getElem?_eq_some_iff.mp hq).1
    unfold numD at hi hq
    rw [pairsD_len] at hi
    have hi : i < ds.length := by simpa using hi
    obtain ⟨x1, y1, q1, q2, rfl⟩ := pairsD_get hq
    obtain ⟨v2, q4, r2⟩ := a2.get q2
    obtain ⟨T, u, rfl, hT, rfl, e3⟩ := y
    have e3 := e3 _ a1
    rw [q4] at e3; cases e3
    rw [List.getElem?_map, List.getElem?_range hi] at q1
    cases q1
    exact pair_rep S.dom hT (by unfold Rep; rfl) r2
  keep := fun P0 ρ σ H ρ' σ' H' S k w hw ok => ok.keep S k w hw
  mem := fun P0 ρ σ H ok => ok.mem
  grow := fun P0 P1 ρ σ H H' S w k ok => ok.grow S w k
end
def cEnumG (m : AM) : IM := fun ρ => do
  let (hs, ρ1) ← m ρ
  match hs with
  | [h] => do
    let x ← (h.d ρ1).nox
    let ds ← (itD x).nox
    if szOk (numD ds).length = true then pure ((numD ds, h.ws), ρ1) else .stk
  | _ => .stk
theorem ci_enumG {p tpos : Pos} {elts : List Expr} {kk : Nat} (hm : X.mg "enumerate" = none) (ha : CA X P0 O W E [a] ms) (hg : Gl X "enumerate" := by rfl) (hs : starEach [a] X.env = [(false, eval a X.env)] := by rfl) :
    CI X P0 O W E (.Tuple elts kk tpos) (.Call (.Name "enumerate" p) [a] [] pos) (cEnumG ms) := PI.imp (pi_enumG hg hm ha hs) fun σ H _ ⟨ρ, S, h⟩ => by
  refine ⟨ρ, S, h.of_bind.mono fun ⟨hs, ρ1⟩ q vs H1 S1 k1 r1 => ?_⟩
  match hs, r1, q with
  | [h], r1, q =>
    obtain ⟨v, ws, rfl, t1, t2⟩ := r1
    have t2 : ws = [] := t2
    subst t2
    obtain ⟨x, ex, q1⟩ := Res.of_nox (show Res E W σ H ((h.d ρ1).nox >>= _) _ from q)
    obtain ⟨ds, e1, q3⟩ := q1.of_nox
    clear q q1
    by_cases c : szOk (numD ds).length = true
    · rw [if_pos c] at q3
      obtain ⟨c1, vs1, rfl, f1, _, g1⟩ := (t1.d S1 ex).kd e1
      exact ⟨c1, vs1, rfl, f1, q3 _ H1 _ S1 k1 (src_enumG e1 g1) (t1.hold ex) (of_decide_eq_true c)⟩
    · rw [if_neg c] at q3
      exact q3.elim
  | [], _, q => exact q.elim
  | _ :: _ :: _, _, q => exact q.elim
end
section
variable {ρ : Y.Env}
@[simp] theorem e_enumG {m : AM} : cEnumG m ρ = (m ρ >>= fun p => match p.1 with | [h] => ((h.d p.2).nox >>= fun x => (itD x).nox >>= fun ds => if szOk (numD ds).length = true then R.ok ((numD ds, h.ws), p.2) else .stk) | _ => .stk) := by
  unfold cEnumG; congr
@[simp] theorem numD_len {ds : List D} : (numD ds).length = ds.length := by unfold numD; rw [pairsD_len]; simp
end
end Y

set_option Elab.async false
set_option linter.all false
set_option maxRecDepth 100000
namespace Y
open PySem PySem.Spec PyProof.Rows L2
abbrev veB : List Value := [.type "ValueError", .type "Exception", .type "BaseException", .type "object"]
structure ErrT (K : PySem.W.Frag) (mg : Str → Option Value) (x : Str) : Prop where
  ex : ∃ C, mg x = some (.ref C) ∧ PySem.W.excIn K C veB "ValueError.__new__" = true ∧ PySem.W.keepIn K (.ref C) = true ∧ PySem.W.subIn K (.ref C) (.type "BaseException") = some true ∧ PySem.W.typeIn K (.ref C) = some (.type "type")
def sRaise (c : Str) : SM := fun _ => .er c []
section
variable {K : PySem.W.Frag} {X : Cx} {P0 : Pr} {O W U : List Nat} {E : EK} {XE : XK} {e : Expr} {ma : EM} {pos : Pos}
theorem cs_raise {x m : Str} {j : Nat} {p p2 q pos : Pos} (T : ErrT X.K X.mg x) (hc : X.calm = true) (tk : L2N.Takes X fun cls d _ H => XE cls d H) (hg : Gl X x := by rfl) (hdb : (x == ("__debug__" : Str)) = false := by decide) :
    CS X P0 O W U (exE X.mg XE) (.Raise (some (.Call (.Name x p) [.Constant (.str m) j p2] [] q)) none pos) (sRaise x) := by
  obtain ⟨C, gC, q, kC, b, t⟩ := T.ex
  refine PS.imp (L2N.ps_raise hc tk (L2N.pmk_own PySem.F.excBase_ValueError q gC kC (raises_own b t) hg hdb)) fun D σ H ⟨ρ, S, h⟩ => ?_
  obtain ⟨_, C', e1, e2⟩ := h H (Keep.refl)
  rw [gC] at e1; cases e1
  exact e2
end
@[simp] theorem e_raise {c : Str} {ρ : Y.Env} : sRaise c ρ = .er c [] := id rfl
end Y

set_option Elab.async false
set_option linter.all false
set_option maxRecDepth 100000
namespace Y
open PySem PySem.Spec PyProof.Rows L2
abbrev setO0 (w : World) : Obj := { cls := .type "set", dict := none, data := .set #[] 0 (.fresh 0 0 (!w.params.followText "set-order")) }
section
variable {P : Program} {w : World} {A : Around} {E : Value → Shared → Prop} {s : Shared}
set_option maxHeartbeats 3200000 in
theorem set_ofL {l : Addr} {ys : Array Value} (ns : List Int) {Q : Value → Shared → Prop} (hh : A.handled = none) (hl : s.heap.IsList l ys) (hi : IntsAre ys.toList ns) (hb : ns.length + 1 < scanBound)
    (q : ∀ (h' : Heap) (tk c : Nat), SetR w h' s.heap.objs.size (fun j => decide (j ∈ ns)) c → c ≤ ns.length → (∀ b o, s.heap.get? b = some o → h'.get? b = some o) → Q (.ref s.heap.objs.size) { s with heap := h', toks := tk }) :
    wpAny (model P w) A (call (.type "set") [.ref l]) Q E s := by
  have zy : ys.size = ns.length := by
    have z := IntsAre.length hi
    rwa [Array.length_toList] at z
  obtain ⟨_, _, z0⟩ := F.called_set.mro
  have z1 := F.called_set.made
  have z2 := F.called_set.sub
  refine wpAny_call (codeAny_of_tree (show wpAny _ _ (callAny (.type "set") _) _ _ _ from ?_))
  refine wpAny_pure ⟨Code.quiet_builtin _ (by decide +kernel), codeAny_builtin (F.entry_type_call) (?_)⟩
  rw [Around.under_plain (weight_type_call_type "set" [.ref l] []) (rfl)]
  have z3 := F.called_set.notType
  have z4 := F.called_set.canCreate
  have z5 := F.typeCall_set_1 (.ref l)
  repeat (any_goals (first | wp_step | assumption))
  refine codeAny_mono (code_set_led1 (.ref l) (E := E) (Q₁ := fun obj t => obj = .ref s.heap.objs.size ∧ t = { s with heap := s.heap.push (setO0 w) }) ⟨rfl, rfl⟩) fun r t hr => ?_
  cases r with
  | error e => exact hr
  | ok fl =>
    cases fl with
    | ret obj =>
      obtain ⟨e1, e2⟩ := hr
      subst e1 e2
      have gS : (s.heap.push (setO0 w)).get? s.heap.objs.size = some (setO0 w) := Heap.get?_push_size _ rfl
      have tS : Shared.TypeIs { s with heap := s.heap.push (setO0 w) } (.ref s.heap.objs.size) "set" := ⟨_, gS, rfl⟩
      have z6 := F.called_set.init.lookup
      have z7 := F.called_set.init.bind (.ref s.heap.objs.size)
      repeat (any_goals (first | wp_step | assumption))
      refine codeAny_mono (codeAny_call_builtin (R := wants (fun r t => r = .none ∧ ∃ h' tk c, t = { s with heap := h', toks := tk } ∧ SetR w h' s.heap.objs.size (fun j => decide (j ∈ ns)) c ∧ c ≤ ns.length ∧ ∀ b o, s.heap.get? b = some o → h'.get? b = some o) E) F.called_set.init.plain F.entry_set_init (check_set_init_1 tS ?_)) fun r2 t2 hr2 => ?_
      · obtain ⟨⟨cls, od, data, os⟩, ho, ec, m, ed⟩ := hl
        simp only at ec ed
        subst ec ed
        have ho1 : (s.heap.push (setO0 w)).get? l = some { cls := .type "list", dict := od, data := .seq ys m, slots := os } := Heap.get?_push_of_some _ ho
        have z8 := F.sub_list_set
        have z9 := F.sub_list_frozenset
        have za : (Value.type "list" == Value.type "dict") = false := by decide
        have hl1 : (s.heap.push (setO0 w)).IsList l ys := ⟨_, ho1, rfl, m, rfl⟩
        unfold Builtin.«set.__init__» noKeywords Builtin.Frozenset.updateFrom
        generalize hp : pyIter = p
        wp_walk
        subst hp
        refine wpAny_pyIter_list hl1 (wpAny_bind (wpAny_runValue ?_))
        have ls : l < s.heap.objs.size := Heap.lt_size ho
        have h3 : A.in1.in1.in1.handled = none := by simp [hh]
        have zp : (s.heap.push (setO0 w)).objs.size = s.heap.objs.size + 1 := Heap.size_push ..
        have ne : l ≠ (s.heap.push (setO0 w)).objs.size := by rw [zp]; exact Nat.ne_of_lt (Nat.lt_succ_of_lt ls)
        have nf : s.heap.objs.size ∉ [(s.heap.push (setO0 w)).objs.size, l] := by
          rw [zp]
          intro z
          rcases List.mem_cons.mp z with z | z
          · exact Nat.ne_of_lt (Nat.lt_succ_self _) z
          · exact Nat.ne_of_gt ls (by simpa using z)
        have hv : ∀ (i : Nat) (v : Value), ys[i]? = some v → ∃ k t, ns[i]? = some k ∧ v = .int k t := fun i v e => by
          have lt : i < ns.length := by rw [← zy]; exact (Array.getElem?_eq_some_iff.mp e).1
          obtain ⟨t, e2⟩ := IntsAre.int_at hi i v (by rw [Array.getElem?_toList]; exact e)
          exact ⟨ns[i], t, List.getElem?_eq_getElem lt, by rw [e2, List.getD_eq_getElem?_getD, List.getElem?_eq_getElem lt]; rfl⟩
        refine set_update_ints ((Walks.list h3 _ l ne ys).toS) s.heap.objs.size nf ns zy hb hv (ys.size - 0) 0 _ (by omega) (Nat.zero_le _) ⟨⟨_, Heap.get?_push_size _ rfl, rfl, rfl⟩, (hl1.push _)⟩ ?ha ?hb
        case ha =>
          have g2 : ((s.heap.push (setO0 w)).push { cls := .type "list_iterator", data := .fields #[.ref l, .int 0 0] }).get? s.heap.objs.size = some (setO0 w) := Heap.get?_push_of_some _ gS
          exact ⟨0, Nat.le_refl 0, setR_new_at g2⟩
        case hb =>
          intro t c mv lc hS
          obtain ⟨h', g2, d2, tk2, o2⟩ := t
          have e1 : g2 = s.gens := mv.gens
          have e2 : d2 = s.drawn := mv.drawn
          have e3 : o2 = s.os := mv.os
          subst e1 e2 e3
          refine wpAny_pure (show wpAny _ _ (ret Value.none) _ _ _ from ?_)
          rw [zy] at lc
          refine wpAny_pure ⟨rfl, h', tk2, c, rfl, hS, lc, fun b o e => ?_⟩
          have b0 : b < s.heap.objs.size := Heap.lt_size e
          refine mv.heap b o (fun z => ?_) (Heap.get?_push_of_some _ (Heap.get?_push_of_some _ (e)))
          rcases List.mem_cons.mp z with z | z
          · exact Nat.ne_of_lt b0 z
          · have z : b = (s.heap.push (setO0 w)).objs.size := by simpa using z
            rw [zp] at z
            exact Nat.ne_of_lt (Nat.lt_succ_of_lt b0) z
      · cases r2 with
        | error e => exact hr2
        | ok fl2 =>
          cases fl2 with
          | ret r =>
            obtain ⟨e1, h', tk, c, e2, hS, lc, hk⟩ := hr2
            subst e1 e2
            repeat (any_goals (first | wp_step | assumption))
            exact q _ _ _ hS lc hk
          | _ => exact hr2.elim
    | _ => exact hr.elim
end
end Y

set_option Elab.async false
set_option linter.all false
set_option maxRecDepth 100000
namespace Y
open PySem PySem.Spec PyProof.Rows L2
def dedupI : List Int → List Int
  | [] => []
  | x :: xs => if x ∈ xs then dedupI xs else x :: dedupI xs
@[simp] theorem mem_dedupI : ∀ {xs : List Int} {k : Int}, k ∈ dedupI xs ↔ k ∈ xs
  | [], k => by simp [dedupI]
  | x :: xs, k => by
    unfold dedupI
    split
    · rename_i h
      rw [mem_dedupI, List.mem_cons]
      exact ⟨.inr, fun z => z.elim (fun z => z ▸ h) id⟩
    · rw [List.mem_cons, mem_dedupI, List.mem_cons]
theorem nodup_dedupI : ∀ {xs : List Int}, (dedupI xs).Nodup
  | [] => by simp [dedupI]
  | x :: xs => by
    unfold dedupI
    split
    · exact nodup_dedupI
    · rename_i h
      exact List.nodup_cons.mpr ⟨fun z => h (mem_dedupI.mp z), nodup_dedupI⟩
theorem dedupI_of : ∀ {xs : List Int}, xs.Nodup → dedupI xs = xs
  | [], _ => rfl
  | x :: xs, h => by
    obtain ⟨h1, h2⟩ := List.nodup_cons.mp h
    unfold dedupI
    rw [if_neg h1, dedupI_of h2]
theorem card_eq {xs ys : List Int} (h1 : xs.Nodup) (h2 : ys.Nodup) (h : ∀ k, k ∈ xs ↔ k ∈ ys) : xs.Perm ys := (List.perm_ext_iff_of_nodup h1 h2).mpr h
def setI (xs : List Int) : List Int := sortI (dedupI xs)
theorem setI_mem {xs : List Int} {k : Int} : k ∈ setI xs ↔ k ∈ xs := by rw [setI, (sortI_perm _).mem_iff, mem_dedupI]
theorem setI_nodup {xs : List Int} : (setI xs).Nodup := (sortI_perm _).nodup_iff.mpr nodup_dedupI
theorem setI_lt {xs : List Int} : (setI xs).Pairwise (· < ·) := by
  have h1 : (setI xs).Pairwise (· ≤ ·) := sortI_pw _
  have h2 : (setI xs).Pairwise (· ≠ ·) := setI_nodup
  exact h1.imp₂ (fun a b h1 h2 => by omega) h2
theorem setI_of {xs ys : List Int} (h : ys.Pairwise (· < ·)) (m : ∀ k, k ∈ ys ↔ k ∈ xs) : ys = setI xs :=
  List.Perm.eq_of_pairwise (le := fun a b : Int => a < b) (fun a b _ _ h1 h2 => by omega) h setI_lt (card_eq (h.imp fun h => by omega) setI_nodup fun k => by rw [m, setI_mem])
theorem setI_len {xs : List Int} : (setI xs).length = (dedupI xs).length := (sortI_perm _).length_eq
def rSetOf (K : PySem.W.Frag) (w : World) : List V → Hp → VK → Prop := fun vs H Q => ∃ (l : Addr) (ns : List Int), vs = [V.ref l] ∧ (SqL K H l (ns.map V.int) ∨ SqT K H l (ns.map V.int)) ∧ ns.length ≤ 4000 ∧
  ∀ p, H p = none → Q (.ref p) (upd H p (SetO w p (fun j => decide (j ∈ ns)) (dedupI ns).length))
section
variable {X : Cx}
theorem setR_card {w : World} {h : Heap} {a : Addr} {ns : List Int} {c : Nat} (R : SetR w h a (fun j => decide (j ∈ ns)) c) : c = (dedupI ns).length := by
  obtain ⟨o, es, ep, t, ho, hx, hd, g, nd, hm, hb, hf, hn, _⟩ := R
  have := (card_eq nd (nodup_dedupI (xs := ns)) fun k => by rw [mem_dedupI, ← hm k]; simp).length_eq
  rw [← hn, ← this]
  simp
theorem cr_setOf (hc : X.calm = true) : CallR X (.type "set") (rSetOf X.K X.w) := by
  intro pins s σ H vs us Q I r ⟨l, ns, e0, hq, hz, q⟩
  subst e0
  rw [Vals.ref1 r]
  have fin : ∀ (h' : Heap) (tk c : Nat), SetR X.w h' s.heap.objs.size (fun j => decide (j ∈ ns)) c → (∀ b o, s.heap.get? b = some o → h'.get? b = some o) → EP X pins σ Q (.ref s.heap.objs.size) { s with heap := h', toks := tk } := fun h' tk c R k => by
    rw [setR_card R] at R
    exact ⟨.ref _, upd H s.heap.objs.size (SetO X.w s.heap.objs.size (fun j => decide (j ∈ ns)) (dedupI ns).length), I.laid (t' := tk) k (Nat.le_refl _) (setO_new R), rfl, q _ (I.hok.fresh (Nat.le_refl _))⟩
  have hb : ns.length + 1 < scanBound := by unfold scanBound; omega
  rcases hq with hq | hq
  · obtain ⟨its, rv, p, _⟩ := I.list hq
    exact set_ofL ns (I.ok.hd hc) p.isList (by simpa using rv.ints) hb fun h' tk c R _ k => fin h' tk c R k
  · obtain ⟨its, rv, p, _⟩ := I.tuple hq
    exact call_set_tupI ns (I.ok.hd hc) p (by simpa using rv.ints) hb fun h' tk c R _ k => fin h' tk c R k
def rLenSet (w : World) : List V → Hp → VK → Prop := fun vs H Q => ∃ (a : Addr) (S : Int → Bool) (n : Nat), vs = [V.ref a] ∧ H a = some (SetO w a S n) ∧ Q (.int n) H
theorem cr_lenSet : CallR X (.builtin "len") (rLenSet X.w) := by
  intro pins s σ H vs us Q I r ⟨a, S, n, e0, ha, q⟩
  subst e0
  rw [Vals.ref1 r]
  obtain ⟨o, es, ep, t, ho, hx, hd, g, nd, hm, hb, hf, hn, _⟩ := setO_get I ha
  exact call_len_set ho hx hd hf (by unfold scanBound at hb; omega) ⟨.int n, H, I.tok _, ⟨_, by rw [hn]⟩, q⟩
end
section
variable {K : PySem.W.Frag} {X : Cx} {P0 : Pr} {O W : List Nat} {E : EK} {a e : Expr} {ma : EM} {pos : Pos}
end
variable {ρ : Y.Env}
end Y

set_option Elab.async false
set_option linter.all false
set_option maxRecDepth 100000
namespace Y
open PySem PySem.Spec PyProof.Rows L2
section
variable {K : PySem.W.Frag} {X : Cx} {P0 : Pr} {O W U : List Nat} {E : EK} {a b e : Expr} {sts : List Stmt} {ma mb : EM} {pos : Pos}
end
variable {ρ : Y.Env}
end Y

set_option Elab.async false
set_option linter.all false
set_option maxRecDepth 100000
namespace Y
open PySem PySem.Spec PyProof.Rows L2
theorem chkO_ws {O W : List Nat} {ρ : Y.Env} (h : (W.all fun i => O.contains i && shAt i ρ) = true) : chkO O W ρ ρ = .ok () := by
  unfold chkO
  rw [if_pos]
  intro j d e
  by_cases c : j ∈ W
  · have := List.all_eq_true.mp h j c
    rw [Bool.and_eq_true] at this
    obtain ⟨h1, h2⟩ := this
    unfold shAt at h2
    rw [e] at h2
    exact .inr (.inl ⟨by simpa using h1, h2⟩)
  · exact .inl ⟨e, c⟩
theorem nls_map {α : Type} {f : α → D} {xs : List α} (h : ∀ x ∈ xs, (f x).nl = true) : nls (xs.map f) = true := nls_all fun d hd => by
  obtain ⟨x, hx, rfl⟩ := List.mem_map.mp hd
  exact h x hx
end Y

set_option Elab.async false
set_option linter.all false
set_option maxRecDepth 100000
namespace Y
open PySem PySem.Spec PyProof.Rows L2
def cCallR (g : List D → R Hd) (m : AM) : EM := fun ρ => do
  let (hs, ρ1) ← m ρ
  let ds ← (dsOf hs ρ1).nox
  let h ← g ds
  match h with
  | .fr d => if d.nl = true then pure (.fr d, ρ1) else .stk
  | .vl d => if d.nl = true then pure (.vl d, ρ1) else .stk
  | .ow _ => .stk
section
variable {X : Cx} {P0 : Pr} {O W : List Nat} {E : EK} {XE : XK} {e : Expr} {es : List Expr} {ms : AM} {pos : Pos} {k np : Nat} {name : Str}
theorem reps_of_at {K : PySem.W.Frag} {H : Hp} {P : Pr} {ds : List D} {vs : List V} (hl : vs.length = ds.length) (h : ∀ (i : Nat) (d : D) (v : V), ds[i]? = some d → vs[i]? = some v → Rep K H d P v) : Reps K H ds P vs := Reps.of_get hl h
theorem tM_callR {g : List D → R Hd} (hE : ∀ c ds H, E c ds H → exE X.mg XE c ds H) (σ : St) (H : Hp) (Q : VK) (h : tM X.K P0 O W E (cCallR g ms) σ H Q) (hl : ALen ms np) : tCall (spD X.K X.mg np [] (pureF g)) [] XE (tMs X.K P0 O W E ms) σ H Q := by
  obtain ⟨ρ, S, h⟩ := h
  refine ⟨ρ, S, ?_⟩
  cases em : ms ρ with
  | stk => unfold cCallR at h; rw [em] at h; exact h.elim
  | er c ds => unfold cCallR at h; rw [em] at h; exact h
  | ok p =>
    obtain ⟨hs, ρ1⟩ := p
    unfold cCallR at h
    rw [em] at h
    intro vs H1 S1 k1 r1
    obtain ⟨ds, e1, q⟩ := Res.of_nox (show Res E W σ H ((dsOf hs ρ1).nox >>= _) _ from h)
    obtain ⟨dl, dg⟩ := dsOf_at e1
    have lv : vs.length = np := by rw [HdRs.len r1]; exact hl ρ hs ρ1 em
    have ld : ds.length = np := by rw [dl]; exact hl ρ hs ρ1 em
    rw [List.append_nil]
    generalize hP : (fun b => FA P0 O σ b ∧ ¬ ∃ (i : Nat), i ∈ O ∧ Hd.ow i ∈ hs ∧ σ[i]? = some (some (V.ref b)) : Pr) = P1
    have sub : ∀ b, P1 b → FA P0 O σ b := fun b z => by subst hP; exact z.1
    have rr : Reps X.K H1 ds P1 vs := reps_of_at (by rw [lv, ld]) fun i d v ed ev => by
      obtain ⟨h0, e2, r⟩ := HdRs.at r1 ev
      have hd := dg i h0 d e2 ed
      cases h0 with
      | fr d' => cases hd; exact r.1.less S1.dom sub
      | vl d' => cases hd; exact Rep.less S1.dom r sub
      | ow j =>
        obtain ⟨w, h1, h2⟩ := S1.own j d (look_some hd) r.1
        rw [r.2] at h1; cases h1
        refine h2.rep S1.dom sub fun a ea => ⟨fun z => ?_, .inr ⟨j, r.1, by rw [← ea]; exact r.2⟩⟩
        subst hP
        exact z.2 ⟨j, r.1, List.mem_of_getElem? e2, by rw [← ea]; exact r.2⟩
    refine ⟨lv, ds, P1, sim_args (fun b z => S1.dom b (sub b z)) rr, ld, ?_⟩
    have q := q.keep k1
    unfold pureF
    cases eg : g ds with
    | stk => rw [eg] at q; exact q.elim
    | er c xs =>
      rw [eg] at q
      exact fun H' kp => hE c xs H' (q H' (Keep.same kp.nil))
    | ok hd =>
      rw [eg] at q
      intro v H2 k2 _ r2
      have sm := Keep.nil k2
      cases hd with
      | ow j => exact q.elim
      | fr d =>
        have q : Res E W σ H1 (if d.nl = true then R.ok (Hd.fr d, ρ1) else .stk) _ := q
        by_cases c : d.nl = true
        · rw [if_pos c] at q
          refine q v H2 (S1.same sm) (k1.trans (Keep.same sm)) ⟨Rep.nl c r2.1, fun m => ?_⟩
          cases d <;> first | (simp [D.nl] at c; done) | (cases m; done)
        · rw [if_neg c] at q; exact q.elim
      | vl d =>
        have q : Res E W σ H1 (if d.nl = true then R.ok (Hd.vl d, ρ1) else .stk) _ := q
        by_cases c : d.nl = true
        · rw [if_pos c] at q
          have r2 : Rep X.K H2 d _ v := r2
          exact q v H2 (S1.same sm) (k1.trans (Keep.same sm)) (Rep.nl c r2)
        · rw [if_neg c] at q; exact q.elim
theorem ce_callR {g : List D → R Hd} {p : Pos} (G : Glo X.prog X.w X.K X.mg X.base name k np [] (pureF g)) (o : Out2 X E XE) (hr : Room k X.A) (ha : CA X P0 O W E (e :: es) ms) (hl : ALen ms np) (hg : Gl X name := by rfl) (hdb : (name == ("__debug__" : Str)) = false := by decide)
    (he : starEach (e :: es) X.env = (false, eval e X.env) :: starEach es X.env := by rfl) (hpl : (backTo pos (starEach es X.env)).any (·.1) = false := by rfl) : CEx X P0 O W E (.Call (.Name name p) (e :: es) [] pos) (cCallR g ms) := by
  obtain ⟨f, fd, ps, hm, hk, hb, _, F⟩ := G.ex
  exact PE.imp (pe_call F hr hg hm hk hb .nil o.pass ha hdb he hpl) fun σ H Q h => tM_callR o.ex σ H Q h hl
end
@[simp] theorem e_callR {g : List D → R Hd} {m : AM} {ρ : Y.Env} : cCallR g m ρ = (m ρ >>= fun p => (dsOf p.1 p.2).nox >>= fun ds => g ds >>= fun h => match h with | .fr d => (if d.nl = true then R.ok (.fr d, p.2) else .stk) | .vl d => (if d.nl = true then R.ok (.vl d, p.2) else .stk) | .ow _ => .stk) := by
  unfold cCallR; congr
end Y

set_option Elab.async false
set_option linter.all false
set_option maxRecDepth 100000
namespace Y.HR
open PySem PySem.Spec PyProof.Rows L2 _root_.HT PySem.W PySem.SeqAt PySem.AutoSeq1 PySem.MeetsSeq PySem.MeetsSeq2 PySem.MeetsSeq3
section
variable {prog : Program} {w : World} {A : Around} {E : Value → Shared → Prop} {s : Shared}
end
end Y.HR
namespace Y
open PySem PySem.Spec PyProof.Rows L2
def RvR (X : Cx) (r : V → Hp → VK → Prop) : Prop :=
  ∀ (pins : List (Addr × Obj)) (s : Shared) (σ : St) (H : Hp) (x : V) (v vk : Value) (sl : Addr) (Q : VK), Inv X pins σ H s → RelV x v → s.heap.IsSliceOf sl .none .none vk → IsPart vk (some (-1)) → r x H Q →
    ∃ T id, typeLookup (.type T) "__getitem__" = pure (some (.builtin id)) ∧ s.TypeIs v T ∧ wpAny (model X.prog X.w) X.A (getItem v (.ref sl)) (EP X pins σ Q) X.xe s
theorem RvR.or {X : Cx} {r r' : V → Hp → VK → Prop} (h : RvR X r) (h' : RvR X r') : RvR X (fun x H Q => r x H Q ∨ r' x H Q) := by
  intro pins s σ H x v vk sl Q I rx hs pk q
  rcases q with q | q
  · exact h pins s σ H x v vk sl Q I rx hs pk q
  · exact h' pins s σ H x v vk sl Q I rx hs pk q
section
variable {X : Cx} {e k : Expr} {te : TE} {p2 pos : Pos}
variable {P0 : Pr} {O W : List Nat} {E : EK} {ma : EM} {mk : OM}
end
@[simp] theorem d_mulS {x : Str} {k : Int} : mulD (.str x) (.int k) = if k < 2 ^ 20 ∧ -(2 ^ 20) < k ∧ szOk (x.length * k.toNat) = true then .ok (.str (repS k x)) else .stk := id rfl
@[simp] theorem d_mulT {x : List D} {k : Int} : mulD (.tup x) (.int k) = if x.isEmpty = false ∧ -(2 ^ 20) < k ∧ k ≤ 1000 ∧ x.length ≤ 1000 then .ok (.tup (List.replicate k.toNat x).flatten) else .stk := id rfl
@[simp] theorem d_mulL {x : List D} {k : Int} : mulD (.lst x) (.int k) = if k < 2 ^ 20 ∧ -(2 ^ 20) < k ∧ szOk (x.length * k.toNat) = true then .ok (.lst (List.replicate k.toNat x).flatten) else .stk := id rfl
end Y

set_option Elab.async false
set_option linter.all false
set_option maxRecDepth 100000
namespace Y
open PySem PySem.Spec PyProof.Rows L2
section
variable {K : PySem.W.Frag} {P0 : Pr} {O W U : List Nat} {ρ : Y.Env} {σ : L2.St} {H : Hp}
end
section
variable {X : Cx} {P0 : Pr} {O W U : List Nat} {E : EK} {st2 : Stmt} {m : SM}
end
end Y

set_option Elab.async false
set_option linter.all false
set_option maxRecDepth 100000
namespace Y
open PySem PySem.Spec PyProof.Rows L2
section
variable {K : PySem.W.Frag} {H : Hp} {P : Pr}
end
section
variable {X : Cx} {P0 : Pr} {Oc : List Nat} {E : EK} {XE : XK} {e : Expr} {es : List Expr} {ms : AM} {pos : Pos} {k np : Nat} {name : Str}
end
end Y

set_option Elab.async false
set_option linter.all false
set_option maxRecDepth 100000
namespace Y
open PySem PySem.Spec PyProof.Rows L2
section
variable {κ : Type} [DecidableEq κ]
def findD : List κ → List D → κ → Option D
  | k' :: ks, d :: ds, k => if k' = k then some d else findD ks ds k
  | _, _, _ => none
theorem findD_rep {K : PySem.W.Frag} {H : Hp} {P : Pr} {k : κ} : ∀ {ks : List κ} {ds : List D} {vs : List V}, Reps K H ds P vs → ks.length = vs.length →
    (∀ d, findD ks ds k = some d → ∃ v, valV (ks.zip vs) k = some v ∧ Rep K H d P v) ∧ (findD ks ds k = none → valV (ks.zip vs) k = none)
  | [], ds, vs, h, hl => by
    have : vs = [] := List.eq_nil_of_length_eq_zero hl.symm
    subst this
    exact ⟨fun d e => by simp [findD] at e, fun _ => rfl⟩
  | k' :: ks, [], vs, h, hl => by
    have : vs = [] := h.nil_iff
    subst this
    simp at hl
  | k' :: ks, d' :: ds, vs, h, hl => by
    obtain ⟨v, ws, rfl, h1, h2⟩ := h.cons_iff
    obtain ⟨i1, i2⟩ := findD_rep (k := k) (ks := ks) h2 (by simpa using hl)
    by_cases e : k' = k
    · refine ⟨fun d q => ?_, fun q => ?_⟩
      · rw [findD, if_pos e] at q
        cases q
        exact ⟨v, by rw [List.zip_cons_cons]; exact valV_pos e, h1⟩
      · rw [findD, if_pos e] at q; cases q
    · refine ⟨fun d q => ?_, fun q => ?_⟩
      · rw [findD, if_neg e] at q
        obtain ⟨w, w1, w2⟩ := i1 d q
        exact ⟨w, by rw [List.zip_cons_cons, valV_neg e]; exact w1, w2⟩
      · rw [findD, if_neg e] at q
        rw [List.zip_cons_cons, valV_neg e]
        exact i2 q
end
def keyOf : D → Option Key
  | .int i => some (.inl i)
  | .str x => some (.inr x)
  | _ => none
def keysOf : List D → Option (List Key)
  | [] => some []
  | d :: ds => match keyOf d with
    | some k => (keysOf ds).map (k :: ·)
    | none => none
theorem keyOf_rep {K : PySem.W.Frag} {H : Hp} {P : Pr} {d : D} {v : V} {k : Key} (h : RepW K H d P v) (e : keyOf d = some k) : v = kV k := by
  cases d <;> simp only [keyOf, Option.some.injEq, reduceCtorEq] at e
  · subst e; rw [h.int]; rfl
  · subst e; rw [h.str]; rfl
theorem keysOf_rep {K : PySem.W.Frag} {H : Hp} {P : Pr} : ∀ {ds : List D} {vs : List V} {ks : List Key}, Reps K H ds P vs → keysOf ds = some ks → vs = ks.map kV
  | [], vs, ks, h, e => by simp [keysOf] at e; subst e; exact h.nil_iff
  | d :: ds, vs, ks, h, e => by
    obtain ⟨v, ws, rfl, h1, h2⟩ := h.cons_iff
    unfold keysOf at e
    cases q : keyOf d with
    | none => rw [q] at e; cases e
    | some k =>
      rw [q] at e
      cases r : keysOf ds with
      | none => rw [r] at e; cases e
      | some ks' =>
        rw [r] at e
        cases e
        have i := keysOf_rep h2 r
        have j : v = kV k := by
          cases d <;> simp only [keyOf, Option.some.injEq, reduceCtorEq] at q
          · subst q; unfold Rep at h1; rw [h1]; rfl
          · subst q; unfold Rep at h1; rw [h1]; rfl
        rw [i, j]; rfl
/-- what d holds at the key: none where it holds nothing -/
def getDic : D → D → R (Option D)
  | .dik ks ds, y => match keyOf y with
    | some k => .ok (findD ks ds k)
    | none => .stk
  | .dit ks ds, .tup ys => match keysOf ys with
    | some k => .ok (findD ks ds k)
    | none => .stk
  | _, _ => .stk
section
variable {K : PySem.W.Frag} {H : Hp} {P : Pr}
theorem getDic_rep {dx dy : D} {x y : V} {o : Option D} (rx : RepW K H dx P x) (ry : RepW K H dy P y) (e : getDic dx dy = .ok o) :
    ∃ a r, x = .ref a ∧ DGet H a y r ∧ r.isSome = o.isSome ∧ ∀ d, o = some d → ∃ v, r = some v ∧ Rep K H d P v := by
  unfold getDic at e
  split at e
  · rename_i ks ds
    obtain ⟨a, vs, rfl, hl, rd, rs⟩ := rx
    cases q : keyOf dy with
    | none => rw [q] at e; cases e
    | some k =>
      rw [q] at e
      cases e
      obtain ⟨f1, f2⟩ := findD_rep (k := k) rs hl
      refine ⟨a, valV (ks.zip vs) k, rfl, .inl ⟨_, k, rd, keyOf_rep ry q, rfl⟩, ?_, f1⟩
      cases z : findD ks ds k with
      | none => rw [f2 z]; rfl
      | some d => obtain ⟨v, v1, _⟩ := f1 d z; rw [v1]; rfl
  · rename_i ks ds ys
    obtain ⟨a, vs, rfl, hl, rd, rs⟩ := rx
    obtain ⟨b, us, rfl, h1, h2⟩ := ry.tup
    cases q : keysOf ys with
    | none => rw [q] at e; cases e
    | some k =>
      rw [q] at e
      cases e
      obtain ⟨f1, f2⟩ := findD_rep (k := k) rs hl
      have eu := keysOf_rep h2 q
      subst eu
      refine ⟨a, valV (ks.zip vs) k, rfl, .inr ⟨_, k, b, rd, rfl, h1, rfl⟩, ?_, f1⟩
      cases z : findD ks ds k with
      | none => rw [f2 z]; rfl
      | some d => obtain ⟨v, v1, _⟩ := f1 d z; rw [v1]; rfl
  · cases e
end
def cDGet (a b : EM) : EM := fun ρ => do
  let (h1, ρ1) ← a ρ
  let (h2, ρ2) ← b ρ1
  let x ← (h1.d ρ2).nox
  let y ← (h2.d ρ2).nox
  let o ← (getDic x y).nox
  match o with
  | some z => pure (.vl z, ρ2)
  | none => .stk
section
variable {X : Cx} {P0 : Pr} {O W : List Nat} {E : EK} {a b : Expr} {ma mb : EM} {pos : Pos}
theorem ce_dget (hu : X.A.units + 1 < cLine) (ha : CEx X P0 O W E a ma) (hb : CEx X P0 O W E b mb) (hs : NoSl b := by intro _ _; rfl) : CEx X P0 O W E (.Subscript a b pos) (cDGet ma mb) := PE.imp (pe_dget hu ha hb hs) fun σ H Q ⟨ρ, S, h⟩ => by
  refine ⟨ρ, S, h.of_bind.mono fun ⟨h1, ρ1⟩ q x H1 S1 k1 r1 => ⟨ρ1, S1, (q.keep k1).of_bind.mono fun ⟨h2, ρ2⟩ q2 y H2 S2 k2 r2 => ?_⟩⟩
  obtain ⟨dx, e1, q3⟩ := q2.of_nox
  obtain ⟨dy, e2, q4⟩ := q3.of_nox
  obtain ⟨o, e3, q5⟩ := q4.of_nox
  have rx := (r1.keep S1 k2).d S2 e1
  have ry := r2.d S2 e2
  obtain ⟨c, r, rfl, g, _, f⟩ := getDic_rep rx ry e3
  cases o with
  | none => exact q5.elim
  | some z =>
    obtain ⟨v, rfl, rv⟩ := f z rfl
    exact ⟨c, v, rfl, g, q5 v H2 S2 (k1.trans k2) rv⟩
end
section
variable {K : PySem.W.Frag} {P0 : Pr} {O W U : List Nat} {ρ : Y.Env} {σ : L2.St} {H : Hp}
theorem Sim.newO (S : Sim K P0 O W ρ σ H) {i : Nat} {p : Addr} {d : D} {o : HO} (hi : i ∈ O) (hl : i < ρ.length) (hp : H p = none) (ho : isMut (some o)) (r : ∀ P, RepO K (upd H p o) d P (.ref p)) : Sim K P0 O W (ρ.set i (some d)) (σ.set i (some (.ref p))) (upd H p o) := by
  have hs : i < σ.length := Nat.lt_of_lt_of_le hl S.len
  have np : ¬ FA P0 O σ p := fun z => by have := S.dom p z; rw [hp] at this; exact this
  have gs : ∀ {j : Nat} {b : Addr}, j ∈ O → (σ.set i (some (V.ref p)))[j]? = some (some (.ref b)) → (j = i ∧ b = p) ∨ (j ≠ i ∧ σ[j]? = some (some (.ref b))) := fun {j b} hj e => by
    by_cases hij : i = j
    · subst hij
      rw [List.getElem?_set_self hs] at e
      cases e
      exact .inl ⟨rfl, rfl⟩
    · rw [List.getElem?_set_ne hij] at e
      exact .inr ⟨fun z => hij z.symm, e⟩
  have fa : ∀ b, FA P0 O (σ.set i (some (V.ref p))) b → FA P0 O σ b ∨ b = p := fun b z => by
    rcases z with z | ⟨j, hj, e⟩
    · exact .inl (.inl z)
    · rcases gs hj e with ⟨_, e⟩ | ⟨_, h2⟩
      · exact .inr e
      · exact .inl (.inr ⟨j, hj, h2⟩)
  have sm : Same H (upd H p o) := Same.new hp
  refine ⟨S.sub, by simpa using S.len, fun b z => ?_, fun j d' e n => ?_, fun j d' e n => ?_, fun j k a hj hk e1 e2 => ?_, fun a z hz => ?_⟩
  · by_cases hb : b = p
    · rw [hb, upd_same]; exact ho
    · rw [upd_ne hb]
      rcases fa b z with z | z
      · exact S.dom b z
      · exact absurd z hb
  · have hij : i ≠ j := fun z => n (by rw [← z]; exact hi)
    rw [List.getElem?_set_ne hij] at e ⊢
    obtain ⟨v, h1, h2⟩ := S.val j d' e n
    exact ⟨v, h1, h2.mono d' S.dom (fun b o e _ => sm b o e) fun b z => (fa b z).imp id fun e => by rw [e]; exact hp⟩
  · by_cases hij : i = j
    · subst hij
      rw [List.getElem?_set_self hl] at e
      cases e
      exact ⟨_, List.getElem?_set_self hs, r _⟩
    · rw [List.getElem?_set_ne hij] at e ⊢
      obtain ⟨v, h1, h2⟩ := S.own j d' e n
      exact ⟨v, h1, h2.mono S.dom (fun b o e _ => sm b o e) (fun b z => (fa b z).imp id fun e => by rw [e]; exact hp) fun a o _ e => sm a o e⟩
  · rcases gs hj e1 with ⟨a1, a2⟩ | ⟨a2, a3⟩
    · rcases gs hk e2 with ⟨b1, b2⟩ | ⟨b2, b3⟩
      · rw [a1, b1]
      · exact absurd (.inr ⟨k, hk, by rw [← a2]; exact b3⟩) np
    · rcases gs hk e2 with ⟨b1, b2⟩ | ⟨b2, b3⟩
      · exact absurd (.inr ⟨j, hj, by rw [← b2]; exact a3⟩) np
      · exact S.sep j k a hj hk a3 b3
  · obtain ⟨j, hj, e⟩ := z
    rcases gs hj e with ⟨_, e⟩ | ⟨_, h2⟩
    · exact np (.inl (by rw [← e]; exact hz))
    · exact S.sep0 a ⟨j, hj, h2⟩ hz
end
theorem tr_new {K : PySem.W.Frag} {P0 : Pr} {O W U : List Nat} {ρ : Y.Env} {σ : L2.St} {H : Hp} (S : Sim K P0 O W ρ σ H) {i : Nat} {p : Addr} {o : HO} (hi : i ∈ O) (hu : i ∉ U) (hl : i < ρ.length) (hp : H p = none) : Tr O U σ H (σ.set i (some (.ref p))) (upd H p o) where
  keep := fun b u e _ => by rw [upd_ne (ne_of_none e hp)]; exact e
  some := fun b e => by
    by_cases hb : b = p
    · rw [hb, upd_same]; intro z; cases z
    · rw [upd_ne hb]; exact e
  own := fun b ⟨j, hj, e⟩ => by
    by_cases hij : i = j
    · subst hij
      rw [List.getElem?_set_self (Nat.lt_of_lt_of_le hl S.len)] at e
      cases e
      exact .inr hp
    · rw [List.getElem?_set_ne hij] at e
      exact .inl ⟨j, hj, e⟩
  unch := fun j hj => List.getElem?_set_ne fun z => hu (by rw [z]; exact hj)
/-- tup: its keys will be tuples -/
def sDicNew (tup : Bool) (i : Nat) : SM := fun ρ => if i < ρ.length then .ok (.nx, ρ.set i (some (if tup = true then .dit [] [] else .dik [] []))) else .stk
section
variable {X : Cx} {P0 : Pr} {O W U : List Nat} {E : EK}
theorem cs_dicnew {tup : Bool} {i : Nat} {x : Str} {p p2 p3 : Pos} (hN : X.N.Nodup) (hi : i ∈ O := by decide) (hu : i ∉ U := by decide) (hx : X.N[i]? = some x := by rfl) (hl : Loc X.env.scope x := by first | exact Or.inl rfl | exact Or.inr rfl)
    (hf : X.fn x = true ∨ X.env.scope.names.lookup x = some .local := by first | exact .inl rfl | exact .inr rfl)
    (hs : swapsWithSole [.Name x p] (.Dict [] [] p2) p3.line X.env = pure false := by rfl) (hw : swappedStores [.Name x p] (.Dict [] [] p2) X.env = pure none := by rfl) :
    CS X P0 O W U E (.Assign [.Name x p] (.Dict [] [] p2) p3) (sDicNew tup i) := by
  cases tup with
  | false =>
    refine PS.imp (ps_asg pe_dnewK (pg_name hN hx hl hf) hs hw) fun D σ H ⟨ρ, S, h⟩ => fun q hq => ?_
    have h : Res E O σ H (if i < ρ.length then R.ok (Fl.nx, ρ.set i (some (.dik [] []))) else .stk) _ := h
    by_cases hlen : i < ρ.length
    · rw [if_pos hlen] at h
      exact h _ _ (S.newO hi hlen hq trivial fun P => ⟨q, [], rfl, rfl, upd_same, Reps.nil⟩) (tr_new S hi hu hlen hq) (by simp)
    · rw [if_neg hlen] at h; exact h.elim
  | true =>
    refine PS.imp (ps_asg pe_dnewT (pg_name hN hx hl hf) hs hw) fun D σ H ⟨ρ, S, h⟩ => fun q hq => ?_
    have h : Res E O σ H (if i < ρ.length then R.ok (Fl.nx, ρ.set i (some (.dit [] []))) else .stk) _ := h
    by_cases hlen : i < ρ.length
    · rw [if_pos hlen] at h
      exact h _ _ (S.newO hi hlen hq trivial fun P => ⟨q, [], rfl, rfl, upd_same, Reps.nil⟩) (tr_new S hi hu hlen hq) (by simp)
    · rw [if_neg hlen] at h; exact h.elim
end
@[simp] theorem e_dget {a b : EM} {ρ : Y.Env} : cDGet a b ρ = (a ρ >>= fun p => b p.2 >>= fun q => (p.1.d q.2).nox >>= fun x => (q.1.d q.2).nox >>= fun y => (getDic x y).nox >>= fun o => match o with | some z => R.ok (.vl z, q.2) | none => .stk) := by
  unfold cDGet; congr
end Y

set_option Elab.async false
set_option linter.all false
set_option maxRecDepth 100000
namespace Y
open PySem PySem.Spec PyProof.Rows L2
section
variable {κ : Type} [DecidableEq κ]
def setD : List κ → List D → κ → D → List D
  | k' :: ks, d' :: ds, k, d => (if k' = k then d else d') :: setD ks ds k d
  | _, _, _, _ => []
def setV : List κ → List V → κ → V → List V
  | k' :: ks, d' :: ds, k, d => (if k' = k then d else d') :: setV ks ds k d
  | _, _, _, _ => []
theorem setV_len {k : κ} {v : V} : ∀ {ks : List κ} {vs : List V}, ks.length = vs.length → (setV ks vs k v).length = ks.length
  | [], _, _ => rfl
  | _ :: _, [], h => by simp at h
  | _ :: ks, _ :: vs, h => by simp [setV, setV_len (ks := ks) (vs := vs) (by simpa using h)]
theorem set_rep {K : PySem.W.Frag} {H : Hp} {P : Pr} {k : κ} {d : D} {v : V} (r : Rep K H d P v) : ∀ {ks : List κ} {ds : List D} {vs : List V}, Reps K H ds P vs → ks.length = vs.length → Reps K H (setD ks ds k d) P (setV ks vs k v)
  | [], ds, vs, h, hl => by
    have : vs = [] := List.eq_nil_of_length_eq_zero hl.symm
    subst this
    cases ds <;> exact Reps.nil
  | k' :: ks, [], vs, h, hl => by
    have : vs = [] := h.nil_iff
    subst this
    simp at hl
  | k' :: ks, d' :: ds, vs, h, hl => by
    obtain ⟨w, ws, rfl, h1, h2⟩ := h.cons_iff
    have ih := set_rep (k := k) r (ks := ks) h2 (by simpa using hl)
    show Reps K H ((if k' = k then d else d') :: setD ks ds k d) P ((if k' = k then v else w) :: setV ks ws k v)
    by_cases e : k' = k
    · rw [if_pos e, if_pos e]; exact Reps.cons r ih
    · rw [if_neg e, if_neg e]; exact Reps.cons h1 ih
theorem map_put {k : κ} {v : V} : ∀ {ks : List κ} {vs : List V}, (ks.zip vs).map (fun kv => if kv.1 = k then (kv.1, v) else kv) = ks.zip (setV ks vs k v)
  | [], _ => rfl
  | _ :: _, [] => rfl
  | k' :: ks, w :: vs => by
    have ih := map_put (k := k) (v := v) (ks := ks) (vs := vs)
    rw [List.zip_cons_cons, List.map_cons, ih]
    show _ = (k' :: ks).zip ((if k' = k then v else w) :: setV ks vs k v)
    rw [List.zip_cons_cons]
    by_cases e : k' = k
    · rw [if_pos e, if_pos e]
    · rw [if_neg e, if_neg e]
theorem any_zip {k : κ} : ∀ {ks : List κ} {vs : List V}, ks.length = vs.length → ((ks.zip vs).any fun kv => decide (kv.1 = k)) = decide (k ∈ ks)
  | [], vs, h => by
    have : vs = [] := List.eq_nil_of_length_eq_zero h.symm
    subst this
    simp
  | _ :: _, [], h => by simp at h
  | k' :: ks, w :: vs, h => by
    have ih := any_zip (k := k) (ks := ks) (vs := vs) (by simpa using h)
    rw [List.zip_cons_cons, List.any_cons, ih, Bool.eq_iff_iff]
    simp only [Bool.or_eq_true, decide_eq_true_eq, List.mem_cons]
    exact ⟨fun h => h.imp (fun h => h.symm) id, fun h => h.imp (fun h => h.symm) id⟩
theorem zip_snoc {k : κ} {v : V} : ∀ {ks : List κ} {vs : List V}, ks.length = vs.length → ks.zip vs ++ [(k, v)] = (ks ++ [k]).zip (vs ++ [v])
  | [], vs, h => by
    have : vs = [] := List.eq_nil_of_length_eq_zero h.symm
    subst this
    rfl
  | _ :: _, [], h => by simp at h
  | k' :: ks, w :: vs, h => by
    have ih := zip_snoc (k := k) (v := v) (ks := ks) (vs := vs) (by simpa using h)
    rw [List.zip_cons_cons, List.cons_append, ih]
    rfl
def putKs (ks : List κ) (k : κ) : List κ := if k ∈ ks then ks else ks ++ [k]
def putDs (ks : List κ) (ds : List D) (k : κ) (d : D) : List D := if k ∈ ks then setD ks ds k d else ds ++ [d]
def putVs (ks : List κ) (vs : List V) (k : κ) (v : V) : List V := if k ∈ ks then setV ks vs k v else vs ++ [v]
theorem put_zip {k : κ} {v : V} {ks : List κ} {vs : List V} (hl : ks.length = vs.length) : putK (ks.zip vs) k v = (putKs ks k).zip (putVs ks vs k v) ∧ (putKs ks k).length = (putVs ks vs k v).length := by
  unfold putK putKs putVs
  rw [any_zip hl]
  by_cases c : k ∈ ks
  · rw [if_pos (decide_eq_true c), if_pos c, if_pos c, map_put]
    exact ⟨rfl, (setV_len hl).symm⟩
  · rw [if_neg (by simpa using c), if_neg c, if_neg c, zip_snoc hl]
    exact ⟨rfl, by simp [hl]⟩
theorem put_reps {K : PySem.W.Frag} {H : Hp} {P : Pr} {k : κ} {d : D} {v : V} {ks : List κ} {ds : List D} {vs : List V} (r : Rep K H d P v) (h : Reps K H ds P vs) (hl : ks.length = vs.length) : Reps K H (putDs ks ds k d) P (putVs ks vs k v) := by
  unfold putDs putVs
  by_cases c : k ∈ ks
  · rw [if_pos c, if_pos c]; exact set_rep r h hl
  · rw [if_neg c, if_neg c]; exact h.append (Reps.cons r Reps.nil)
end
def putDic : D → D → D → R D
  | .dik ks ds, y, d => match keyOf y with
    | some k => if szOk (ks.length + 1) = true then .ok (.dik (putKs ks k) (putDs ks ds k d)) else .stk
    | none => .stk
  | .dit ks ds, .tup ys, d => match keysOf ys with
    | some k => if szOk (ks.length + 1) = true then .ok (.dit (putKs ks k) (putDs ks ds k d)) else .stk
    | none => .stk
  | _, _, _ => .stk
def dicAt (i : Nat) (ρ : Y.Env) : R D := match ρ[i]? with
  | some (some (.dik ks ds)) => .ok (.dik ks ds)
  | some (some (.dit ks ds)) => .ok (.dit ks ds)
  | _ => .stk
def sDPutS (i : Nat) (mk mv : EM) : SM := fun ρ => do
  let (h, ρ1) ← mv ρ
  let d ← h.v.nox
  let _ ← (dicAt i ρ1).nox
  let (h2, ρ2) ← mk ρ1
  let k ← h2.v.nox
  let x ← (dicAt i ρ2).nox
  let z ← (putDic x k d).nox
  pure (.nx, ρ2.set i (some z))
section
variable {K : PySem.W.Frag} {X : Cx} {P0 : Pr} {O W U : List Nat} {E : EK} {e k : Expr} {ma mk : EM}
theorem dicAt_ok {i : Nat} {ρ : Y.Env} {x : D} (h : dicAt i ρ = .ok x) : ρ[i]? = some (some x) := by
  unfold dicAt at h
  split at h
  · rename_i q; cases h; exact q
  · rename_i q; cases h; exact q
  · cases h
theorem dicAt_ref {ρ : Y.Env} {σ : L2.St} {H : Hp} (S : Sim K P0 O W ρ σ H) {i : Nat} {x : D} (hi : i ∈ O) (h : dicAt i ρ = .ok x) : ∃ a, σ[i]? = some (some (.ref a)) := by
  have q := dicAt_ok h
  obtain ⟨v, h1, h2⟩ := S.own i x q hi
  cases x with
  | dik ks ds => obtain ⟨a, vs, rfl, _⟩ := h2; exact ⟨a, h1⟩
  | dit ks ds => obtain ⟨a, vs, rfl, _⟩ := h2; exact ⟨a, h1⟩
  | _ => unfold dicAt at h; rw [q] at h; cases h
theorem cs_dput {i : Nat} {x : Str} {p sp pos : Pos} (hu : X.A.units + 1 < cLine) (h : CEx X P0 O W E e ma) (hk : CEx X P0 O W E k mk) (hi : i ∈ O := by decide) (hx : X.N[i]? = some x := by rfl) (hv : Vis X.env.scope x := by first | exact Or.inl rfl | exact Or.inr (Or.inl rfl) | exact Or.inr (Or.inr rfl)) (hd : (x == ("__debug__" : Str)) = false := by decide) (hcd : (x == ("__classdict__" : Str)) = false := by decide)
    (hs : swapsWith e (some (.Subscript (.Name x p) k sp)) pos.line X.env = pure false := by rfl) :
    CS X P0 O W U E (.Assign [.Subscript (.Name x p) k sp] e pos) (sDPutS i mk ma) := PS.imp (ps_dput hu (pe_var (i := i) hx hv hd hcd) hk h hs) fun D σ H ⟨ρ, S, h⟩ => by
  refine ⟨ρ, S, (h.of_bind.down S.sub).mono fun ⟨hd, ρ1⟩ q v H1 S1 k1 r1 => ?_⟩
  obtain ⟨d, e1, q1⟩ := q.of_nox
  obtain ⟨x0, e0, q2⟩ := q1.of_nox
  obtain ⟨l, h1⟩ := dicAt_ref S1 hi e0
  refine ⟨.ref l, h1, ρ1, S1, ((q2.of_bind.down S1.sub).keep k1).mono fun ⟨hd2, ρ2⟩ q3 w H2 S2 k2 r2 => ?_⟩
  obtain ⟨dk, e2, q4⟩ := q3.of_nox
  obtain ⟨x1, e3, q5⟩ := Res.of_nox (show Res E O σ H ((dicAt i ρ2).nox >>= _) _ from q4)
  obtain ⟨z, e4, q6⟩ := Res.of_nox (show Res E O σ H ((putDic x1 dk d).nox >>= _) _ from q5)
  have rk := r2.v e2
  have rv := S1.rep k2 (r1.v e1)
  obtain ⟨v1, g1, g2⟩ := S2.own i x1 (dicAt_ok e3) hi
  rw [h1] at g1
  cases g1
  have pa : FA P0 O σ l := .inr ⟨i, hi, h1⟩
  have up : ∀ (o : HO) b u, H2 b = some u → ¬ FA P0 O σ b → upd H2 l o b = some u := fun o b u e n => by rw [upd_ne fun z => n (by rw [z]; exact pa)]; exact e
  unfold putDic at e4
  split at e4
  · rename_i ks ds
    obtain ⟨a, vs, ea, hl, hH, rs⟩ := g2
    cases ea
    cases qk : keyOf dk with
    | none => rw [qk] at e4; cases e4
    | some kk =>
      rw [qk] at e4
      simp only at e4
      split at e4
      · rename_i zs
        cases e4
        obtain ⟨pz, pl⟩ := put_zip (k := kk) (v := v) hl
        have ew : w = kV kk := keyOf_rep (rk.weak S2.dom) qk
        subst ew
        refine ⟨l, _, rfl, DPut.k hH (by rw [List.length_zip, ← hl, Nat.min_self]; exact of_decide_eq_true zs), ?_⟩
        rw [pz]
        exact q6 σ _ (S2.ownW hi h1 trivial ⟨l, _, rfl, pl, upd_same, (put_reps rv rs hl).mono _ S2.dom (up _) fun b z => .inl z⟩) (Tr.ownW S.sub (k1.trans k2) hi h1) rfl
      · cases e4
  · rename_i ks ds ys
    obtain ⟨a, vs, ea, hl, hH, rs⟩ := g2
    cases ea
    cases qk : keysOf ys with
    | none => rw [qk] at e4; cases e4
    | some kk =>
      rw [qk] at e4
      simp only at e4
      split at e4
      · rename_i zs
        cases e4
        obtain ⟨pz, pl⟩ := put_zip (k := kk) (v := v) hl
        unfold Rep at rk
        obtain ⟨b, us, rfl, b1, b2⟩ := rk
        have eu := keysOf_rep b2 qk
        subst eu
        refine ⟨l, _, rfl, DPut.t hH b1 (by rw [List.length_zip, ← hl, Nat.min_self]; exact of_decide_eq_true zs), ?_⟩
        rw [pz]
        exact q6 σ _ (S2.ownW hi h1 trivial ⟨l, _, rfl, pl, upd_same, (put_reps rv rs hl).mono _ S2.dom (up _) fun b z => .inl z⟩) (Tr.ownW S.sub (k1.trans k2) hi h1) rfl
      · cases e4
  · cases e4
end
end Y

set_option Elab.async false
set_option linter.all false
set_option maxRecDepth 100000
namespace Y
open PySem PySem.Spec PyProof.Rows L2
/-- a flow, or the class of a refusal -/
abbrev TM := Env → R ((Fl ⊕ Str) × Env)
abbrev XM := Env → R ((Hd ⊕ Str) × Env)
/-- what an own class of refusals bears -/
structure ErrZ (K : PySem.W.Frag) (mg : Str → Option Value) (c : Str) : Prop where
  ex : ∃ C, mg c = some (.ref C) ∧ ExcC K C
/-- except x takes all of the classes es -/
structure CatF (K : PySem.W.Frag) (mg : Str → Option Value) (es : List Str) (x : Str) : Prop where
  ex : ∃ u, mg x = some (.ref u) ∧ ∀ c ∈ es, ∃ C, mg c = some (.ref C) ∧ PySem.W.exmOne K (.ref C) (.ref u) = some true
section
variable {X : Cx} {P0 : Pr} {O W U : List Nat} {E : EK} {XE : XK} {a b c e : Expr} {es : List Expr} {ma mb mc : EM} {ms : AM} {pos : Pos} {k np : Nat} {name : Str} {st : Stmt} {sts : List Stmt} {m n : SM}
def tX (K : PySem.W.Frag) (mg : Str → Option Value) (P0 : Pr) (O W : List Nat) (m : XM) (Ws : WX) : TE := fun σ H Q => ∃ ρ, Sim K P0 O W ρ σ H ∧
  Res E00 W σ H (m ρ) fun a => match a.1 with
    | .inl h => ∀ v H', Sim K P0 O W a.2 σ H' → Keep W σ H H' → HdR K P0 O H σ H' h v → Q v H'
    | .inr c => ∀ H', Sim K P0 O W a.2 σ H' → Keep W σ H H' → ∃ C, mg c = some (.ref C) ∧ Ws (.ref C) none σ H'
def tTb (K : PySem.W.Frag) (mg : Str → Option Value) (P0 : Pr) (O W U : List Nat) (m : TM) (Ws : WX) : TS := fun D σ H => ∃ ρ, Sim K P0 O W ρ σ H ∧
  Res E00 O σ H (m ρ) fun a => match a.1 with
    | .inl f => ∀ σ' H', Sim K P0 O W a.2 σ' H' → Tr O U σ H σ' H' → σ'.length = σ.length → Fin K P0 O H D σ' H' f
    | .inr c => ∀ σ' H', Sim K P0 O W a.2 σ' H' → Tr O U σ H σ' H' → σ'.length = σ.length → ∃ C, mg c = some (.ref C) ∧ Ws (.ref C) none σ' H'
/-- f(..) that may refuse -/
def cXcall (g : List D → R Hd) (m : AM) : XM := fun ρ => do
  let (hs, ρ1) ← m ρ
  let ds ← (vsOf hs).nox
  match g ds with
  | .ok (.ow _) => .stk
  | .ok h => pure (.inl h, ρ1)
  | .er c [] => pure (.inr c, ρ1)
  | _ => .stk
theorem tX_call {g : List D → R Hd} {Ws : WX} (hl : ALen ms np) (σ : St) (H : Hp) (Q : VK) (h : tX X.K X.mg P0 O W (cXcall g ms) Ws σ H Q) :
    tCallS (spD X.K X.mg np [] (pureF g)) (WE Ws) (tMs X.K P0 O W E00 ms) σ H Q := by
  obtain ⟨ρ, S, h⟩ := h
  refine ⟨ρ, S, ?_⟩
  cases em : ms ρ with
  | stk => unfold cXcall at h; rw [em] at h; exact h.elim
  | er c ds => unfold cXcall at h; rw [em] at h; exact h
  | ok p =>
    obtain ⟨hs, ρ1⟩ := p
    unfold cXcall at h
    rw [em] at h
    intro vs H1 S1 k1 r1
    obtain ⟨ds, e1, q⟩ := Res.of_nox (show Res E00 W σ H ((vsOf hs).nox >>= _) _ from h)
    have rr := HdRs.vs r1 e1
    have lv : vs.length = np := by rw [HdRs.len r1]; exact hl ρ hs ρ1 em
    refine ⟨lv, ds, FA P0 O σ, sim_args S1.dom rr, by rw [← rr.length]; exact lv, ?_⟩
    unfold pureF
    cases eg : g ds with
    | stk => rw [eg] at q; exact q.elim
    | er c xs =>
      rw [eg] at q
      cases xs with
      | cons x xs => exact q.elim
      | nil =>
        have q : ∀ H', Sim X.K P0 O W ρ1 σ H' → Keep W σ H H' → ∃ C, X.mg c = some (.ref C) ∧ Ws (.ref C) none σ H' := q
        exact fun H' kp => ⟨rfl, q H' (S1.same kp.nil) (k1.trans (Keep.same kp.nil))⟩
    | ok hd =>
      rw [eg] at q
      intro v H2 k2 _ r2
      have sm := Keep.nil k2
      cases hd with
      | ow j => exact q.elim
      | fr d =>
        have q : ∀ v H', Sim X.K P0 O W ρ1 σ H' → Keep W σ H H' → HdR X.K P0 O H σ H' (.fr d) v → Q v H' := q
        exact q v H2 (S1.same sm) (k1.trans (Keep.same sm)) ⟨r2.1.less (fun b z => (S1.same sm).dom b ((FA_nil b).mp z)) fun b z => .inl z, fun m a e => Classical.byContradiction fun z => k1.some a z (r2.2 m a e)⟩
      | vl d =>
        have q : ∀ v H', Sim X.K P0 O W ρ1 σ H' → Keep W σ H H' → HdR X.K P0 O H σ H' (.vl d) v → Q v H' := q
        exact q v H2 (S1.same sm) (k1.trans (Keep.same sm)) (Rep.less (fun b z => (S1.same sm).dom b ((FA_nil b).mp z)) r2 fun b z => .inl z)
theorem cx_call {g : List D → R Hd} {p : Pos} {Ws : WX} (G : Glo X.prog X.w X.K X.mg X.base name k np [] (pureF g)) (tk : L2N.Takes X Ws) (hr : Room k X.A) (ha : CA X P0 O W E00 (e :: es) ms) (hl : ALen ms np) (hg : Gl X name := by rfl) (hdb : (name == ("__debug__" : Str)) = false := by decide)
    (he : starEach (e :: es) X.env = (false, eval e X.env) :: starEach es X.env := by rfl) (hpl : (backTo pos (starEach es X.env)).any (·.1) = false := by rfl) : PE X (.Call (.Name name p) (e :: es) [] pos) (tX X.K X.mg P0 O W (cXcall g ms) Ws) := by
  obtain ⟨f, fd, ps, hm, hk, hb, _, F⟩ := G.ex
  exact PE.imp (pe_callS (E := WE Ws) F hr hg hm hk hb (fun σ => L2N.passAt tk σ) ha hdb he hpl) fun σ H Q h => tX_call hl σ H Q h
def tbAsg (m : XM) (i : Nat) : TM := fun ρ => do
  let (x, ρ1) ← m ρ
  match x with
  | .inl h => (do
      let d ← h.v.nox
      pure (.inl .nx, ρ1.set i (some d)))
  | .inr c => pure (.inr c, ρ1)
theorem cb_asg {xm : XM} {Ws : WX} {i : Nat} {x : Str} {p : Pos} (hN : X.N.Nodup) (h : PE X e (tX X.K X.mg P0 O W xm Ws)) (hi : i ∉ O := by decide) (hu : i ∉ U := by decide) (hx : X.N[i]? = some x := by rfl) (hl : Loc X.env.scope x := by first | exact Or.inl rfl | exact Or.inr rfl) (hf : X.fn x = true ∨ X.env.scope.names.lookup x = some .local := by first | exact .inl rfl | exact .inr rfl)
    (hs : swapsWithSole [.Name x p] e pos.line X.env = pure false := by rfl) (hw : swappedStores [.Name x p] e X.env = pure none := by rfl) : PS X (.Assign [.Name x p] e pos) (tTb X.K X.mg P0 O W U (tbAsg xm i) Ws) := PS.imp (ps_asg h (pg_name hN hx hl hf) hs hw) fun D σ H ⟨ρ, S, h⟩ =>
  ⟨ρ, S, (h.of_bind.down S.sub).mono fun ⟨x, ρ1⟩ q => by
    cases x with
    | inl hd =>
      obtain ⟨d, e1, q⟩ := Res.of_nox (show Res E00 O σ H (hd.v.nox >>= _) _ from q)
      exact fun v H1 S1 k1 r1 => q _ H1 (S1.set hi (r1.v e1)) ((Tr.of S.sub k1).trans ⟨fun _ _ e _ => e, fun _ e => e, fun b ⟨j, hj, z⟩ => .inl ⟨j, hj, by rwa [List.getElem?_set_ne fun (y : i = j) => hi (y ▸ hj)] at z⟩, fun j hj => List.getElem?_set_ne fun (y : i = j) => hu (y ▸ hj)⟩) (by simp)
    | inr c => exact fun H1 S1 k1 => q σ H1 S1 (Tr.of S.sub k1) rfl⟩
theorem cb_one {Ws : WX} {m : TM} (h : PS X st (tTb X.K X.mg P0 O W U m Ws)) : PSs X [st] (tTb X.K X.mg P0 O W U m Ws) := pss_one h
variable {i : Nat} {ad : Addr}
end
section
variable {K : PySem.W.Frag} {P0 : Pr} {O W U : List Nat} {ρ : Env} {σ : St} {H : Hp}
theorem Tr.fewer {U' : List Nat} {σ' : St} {H' : Hp} (t : Tr O U σ H σ' H') (h : ∀ i ∈ U', i ∈ U) : Tr O U' σ H σ' H' := ⟨t.keep, t.some, t.own, fun i hi => t.unch i (h i hi)⟩
end
section
variable {X : Cx} {P0 : Pr} {O W U : List Nat} {E : EK}
end
end Y

set_option Elab.async false
set_option linter.all false
set_option maxRecDepth 100000
namespace Y
open PySem PySem.Spec PyProof.Rows L2
theorem all_nil {α : Type} {p : α → Prop} : ∀ c ∈ ([] : List α), p c := fun _ h => nomatch h
theorem all_cons {α : Type} {p : α → Prop} {c : α} {cl : List α} (h : p c) (t : ∀ c ∈ cl, p c) : ∀ x ∈ c :: cl, p x := List.forall_mem_cons.mpr ⟨h, t⟩
variable {ρ : Y.Env}
@[simp] theorem e_xcall {g : List D → R Hd} {m : AM} : cXcall g m ρ = (m ρ >>= fun p => (vsOf p.1).nox >>= fun ds => match g ds with | .ok (.ow _) => .stk | .ok h => R.ok (.inl h, p.2) | .er c [] => R.ok (.inr c, p.2) | _ => .stk) := id rfl
@[simp] theorem e_tbasg {m : XM} {i : Nat} : tbAsg m i ρ = (m ρ >>= fun p => match p.1 with | .inl h => (h.v.nox >>= fun d => R.ok (.inl .nx, p.2.set i (some d))) | .inr c => R.ok (.inr c, p.2)) := id rfl
end Y

set_option Elab.async false
set_option linter.all false
set_option maxRecDepth 100000
namespace Y
open PySem PySem.Spec PyProof.Rows L2
def DicU : HO → Prop
  | .dK _ => True
  | .dT _ => True
  | _ => False
theorem Rd.only {H : Hp} {a b : Addr} {u o : HO} (hu : DicU u) (r : Rd H a u) (e : H b = Option.some o) (n1 : ¬ DicU o) (n2 : ∀ x w, o = .frz x w → ¬ DicU w) : b ≠ a := by
  rintro rfl
  rcases r with r | ⟨x, r⟩
  · rw [e] at r; cases r; exact n1 hu
  · rw [e] at r; cases r; exact n2 _ _ rfl hu
section
variable {K : PySem.W.Frag} {H H' : Hp} {a : Addr} {u : HO}
theorem Rd.move (hu : DicU u) (k : ∀ b, b ≠ a → H' b = H b) (r : Rd H a u) (r' : Rd H' a u) {b : Addr} {o : HO} (n2 : ∀ x w, o ≠ .frz x w) (h : Rd H b o) : Rd H' b o := by
  by_cases e : b = a
  · subst e
    have : o = u := by
      rcases r with r | ⟨x, r⟩ <;> rcases h with h | ⟨y, h⟩ <;> rw [r] at h <;> cases h <;> first | rfl | exact absurd rfl (n2 _ _) | exact hu.elim
    rw [this]; exact r'
  · rcases h with h | ⟨y, h⟩
    · exact .inl (by rw [k b e]; exact h)
    · exact .inr ⟨y, by rw [k b e]; exact h⟩
theorem TabS.rd (hu : DicU u) (k : ∀ b, b ≠ a → H' b = H b) (r : Rd H a u) {p b : Addr} {q : Str} (t : TabP H p q b) : TabP H' p q b := by
  obtain ⟨e, ps, h1, h2, h3⟩ := t
  refine ⟨e, ps, ?_, h2, fun pos cv hc => ?_⟩
  · rw [k b (Rd.only hu r h1 (fun z => z) fun x w z => by cases z)]
    exact h1
  · obtain ⟨c, e1, e2⟩ := h3 pos cv hc
    refine ⟨c, e1, ?_⟩
    rw [k c (Rd.only hu r e2 (fun z => z) fun x w z => by unfold LamX.CodeO at z; cases z)]
    exact e2
mutual
theorem Rep.rd (hu : DicU u) (k : ∀ b, b ≠ a → H' b = H b) (r : Rd H a u) (r' : Rd H' a u) : ∀ {d : D} {P : Pr} {v : V}, Rep K H d P v → Rep K H' d P v
  | .non, _, _, h => by unfold Rep at h ⊢; exact h
  | .bl _, _, _, h => by unfold Rep at h ⊢; exact h
  | .int _, _, _, h => by unfold Rep at h ⊢; exact h
  | .str _, _, _, h => by unfold Rep at h ⊢; exact h
  | .tup ds, P, v, h => by
    unfold Rep at h ⊢
    obtain ⟨b, vs, e, h1, h2⟩ := h
    exact ⟨b, vs, e, by rw [k b (Rd.only hu r h1 id fun _ _ z => by cases z)]; exact h1, Reps.rd hu k r r' h2⟩
  | .lst ds, P, v, h => by
    unfold Rep at h ⊢
    obtain ⟨b, vs, e, h0, h1, h2⟩ := h
    exact ⟨b, vs, e, h0, by rw [k b (Rd.only hu r h1 id fun _ _ z => by cases z)]; exact h1, Reps.rd hu k r r' h2⟩
  | .arg ns, P, v, h => by
    unfold Rep at h ⊢
    obtain ⟨b, e, h⟩ := h
    refine ⟨b, e, ?_⟩
    rcases h with ⟨h0, h1⟩ | h
    · exact .inl ⟨h0, Rd.move hu k r r' (fun _ _ z => by cases z) h1⟩
    · exact .inr h
  | .dik ks ds, P, v, h => by
    unfold Rep at h ⊢
    obtain ⟨b, vs, e, h0, hl, h1, h2⟩ := h
    exact ⟨b, vs, e, h0, hl, Rd.move hu k r r' (fun _ _ z => by cases z) h1, Reps.rd hu k r r' h2⟩
  | .dit ks ds, P, v, h => by
    unfold Rep at h ⊢
    obtain ⟨b, vs, e, h0, hl, h1, h2⟩ := h
    exact ⟨b, vs, e, h0, hl, Rd.move hu k r r' (fun _ _ z => by cases z) h1, Reps.rd hu k r r' h2⟩
  | .ftu ds, P, v, h => by
    unfold Rep at h ⊢
    obtain ⟨b, vs, o, e, h1, hd, h2⟩ := h
    have nb : b ≠ a := fun z => by
      subst z
      rcases r with r | ⟨x, r⟩ <;> rw [r] at h1 <;> cases h1 <;> exact hu.elim
    exact ⟨b, vs, o, e, by rw [k b nb]; exact h1, hd, Reps.rd hu k r r' h2⟩
  | .tab p q, P, v, h => by
    unfold Rep at h ⊢
    obtain ⟨b, e, h0, h1⟩ := h
    exact ⟨b, e, h0, TabS.rd hu k r h1⟩
theorem Reps.rd (hu : DicU u) (k : ∀ b, b ≠ a → H' b = H b) (r : Rd H a u) (r' : Rd H' a u) : ∀ {ds : List D} {P : Pr} {vs : List V}, Reps K H ds P vs → Reps K H' ds P vs
  | [], _, _, h => by rw [h.nil_iff]; exact Reps.nil
  | d :: ds, P, vs, h => by
    obtain ⟨v, ws, rfl, h1, h2⟩ := h.cons_iff
    exact Reps.cons (Rep.rd hu k r r' h1) (Reps.rd hu k r r' h2)
end
variable {P0 : Pr} {O W U : List Nat} {ρ : Y.Env} {σ : L2.St}
theorem Sim.rd (S : Sim K P0 O W ρ σ H) (hu : DicU u) (k : ∀ b, b ≠ a → H' b = H b) (r : Rd H a u) (r' : Rd H' a u) (n : ¬ FA P0 O σ a) : Sim K P0 O W ρ σ H' where
  sub := S.sub
  len := S.len
  dom := fun b z => by rw [k b fun e => n (e ▸ z)]; exact S.dom b z
  val := fun i d e h => let ⟨v, h1, h2⟩ := S.val i d e h; ⟨v, h1, h2.rd hu k r r'⟩
  own := fun i d e h => by
    obtain ⟨v, h1, h2⟩ := S.own i d e h
    have na : ∀ b, v = .ref b → b ≠ a := fun b e z => n (.inr ⟨i, h, by rw [h1, e, z]⟩)
    refine ⟨v, h1, ?_⟩
    cases d with
    | lst ds => obtain ⟨b, vs, e, g1, g2⟩ := h2; exact ⟨b, vs, e, by rw [k b (na b e)]; exact g1, g2.rd hu k r r'⟩
    | dik ks ds => obtain ⟨b, vs, e, hl, g1, g2⟩ := h2; exact ⟨b, vs, e, hl, by rw [k b (na b e)]; exact g1, g2.rd hu k r r'⟩
    | dit ks ds => obtain ⟨b, vs, e, hl, g1, g2⟩ := h2; exact ⟨b, vs, e, hl, by rw [k b (na b e)]; exact g1, g2.rd hu k r r'⟩
    | non => exact h2
    | bl _ => exact h2
    | int _ => exact h2
    | str _ => exact h2
    | tup _ => exact h2
    | arg _ => exact h2
    | ftu _ => exact h2
    | tab p q => obtain ⟨b, e, g1⟩ := h2; exact ⟨b, e, TabS.rd hu k r g1⟩
  sep := S.sep
  sep0 := S.sep0
end
section
variable {P : Program} {w : World} {K : PySem.W.Frag} {d : Addr} {o : Obj} {es : Array DictEntry} {ep : Nat}
end
section
variable {K : PySem.W.Frag} {O W : List Nat} {a : Addr} {o : Obj} {ds : List D} {vs : List V}
end

theorem PS.or {X : Cx} {st : Stmt} {t t' : TS} (h : PS X st t) (h' : PS X st t') : PS X st fun D σ H => t D σ H ∨ t' D σ H :=
  ⟨fun pins s σ H D I q => q.elim (h.run pins s σ H D I) (h'.run pins s σ H D I)⟩
section
variable {K : PySem.W.Frag} {P0 : Pr} {O W U : List Nat} {E : EK} {ρ : Y.Env} {σ : L2.St} {H : Hp} {m : SM} {D : Ends} {a : Addr} {u : HO}
end
section
variable {X : Cx} {P0 : Pr} {O W U : List Nat} {E : EK} {m : SM}
end
end Y

set_option Elab.async false
set_option linter.all false
set_option maxRecDepth 100000
namespace Y
open PySem PySem.Spec PyProof.Rows L2
section
variable {X : Cx} {pins : List (Addr × Obj)} {σ : L2.St} {H : Hp} {s : Shared}
end
variable {ρ : Y.Env}
@[simp] theorem e_dicnew {tup : Bool} {i : Nat} : sDicNew tup i ρ = if i < ρ.length then .ok (.nx, ρ.set i (some (if tup = true then .dit [] [] else .dik [] []))) else .stk := id rfl
@[simp] theorem e_dicAtK {i : Nat} : dicAt i ρ = (match ρ[i]? with | some (some (.dik ks ds)) => .ok (.dik ks ds) | some (some (.dit ks ds)) => .ok (.dit ks ds) | _ => .stk) := id rfl
@[simp] theorem e_dput {i : Nat} {mk mv : EM} : sDPutS i mk mv ρ = (mv ρ >>= fun p => p.1.v.nox >>= fun d => (dicAt i p.2).nox >>= fun _ => mk p.2 >>= fun q => q.1.v.nox >>= fun k => (dicAt i q.2).nox >>= fun x => (putDic x k d).nox >>= fun z => R.ok (.nx, q.2.set i (some z))) := id rfl
@[simp] theorem d_putK {ks : List Key} {ds : List D} {i : Int} {d : D} : putDic (.dik ks ds) (.int i) d = if szOk (ks.length + 1) = true then .ok (.dik (putKs ks (.inl i)) (putDs ks ds (.inl i) d)) else .stk := id rfl
@[simp] theorem d_getK {ks : List Key} {ds : List D} {i : Int} : getDic (.dik ks ds) (.int i) = .ok (findD ks ds (.inl i)) := id rfl
end Y

set_option Elab.async false
set_option linter.all false
set_option maxRecDepth 100000
set_option maxHeartbeats 4000000
namespace Y
open PySem PySem.Spec PyProof.Rows L2
section
variable {X : Cx} {pins : List (Addr × Obj)} {σ : L2.St} {H : Hp} {s : Shared}
end
end Y

set_option Elab.async false
set_option linter.all false
set_option maxRecDepth 100000
set_option maxHeartbeats 4000000
namespace Y
open PySem PySem.Spec PyProof.Rows L2
section
variable {K : PySem.W.Frag} {X : Cx} {H : Hp} {P : Pr}
theorem map_fst_zip {ds : List D} {vs : List V} (hl : vs.length = ds.length) : (ds.zip vs).map (·.1) = ds := by
  have := List.map_fst_zip (l₁ := ds) (l₂ := vs) (by omega)
  exact this
end
section
variable {X : Cx}
end
end Y

set_option Elab.async false
set_option linter.all false
set_option maxRecDepth 100000
namespace Y
open PySem PySem.Spec PyProof.Rows L2
def D1 (p : Addr) (Q : VK) (x y : V) (H2 : Hp) : Prop := H2 p = some (.dT []) ∧ ∃ (q : Addr) (k : List Key), x = .ref q ∧ H2 q = some (.tup (k.map kV)) ∧ Q (.ref p) (upd H2 p (.dT [(k, y)]))
end Y

set_option Elab.async false
set_option linter.all false
set_option maxRecDepth 100000
namespace Y
open PySem PySem.Spec PyProof.Rows L2
section
variable {K : PySem.W.Frag} {X : Cx} {P0 : Pr} {O W U : List Nat} {E : EK} {pos : Pos}
end
section
variable {X : Cx} {P0 : Pr} {O W : List Nat} {E : EK} {a b : Expr} {ma mb : EM} {pos : Pos}
end
end Y

set_option Elab.async false
set_option linter.all false
set_option maxRecDepth 100000
namespace Y
open PySem PySem.Spec PyProof.Rows L2
section
variable {K : PySem.W.Frag} {P0 : Pr} {O W U : List Nat} {ρ ρ1 ρ2 : Y.Env} {σ σ1 σ3 : L2.St} {H H1 H2 H3 : Hp} {i : Nat} {vs : List Nat}
/-- what the state is apart from the new objects A -/
theorem Sim.apart (S1 : Sim K P0 O W ρ1 σ H1) (S2 : Sim K P0 O W ρ2 σ H2) (kp : ∀ b o, H1 b = some o → ¬ OA W σ b → H2 b = some o) {A : Pr} (hA : ∀ b, A b → H1 b = none ∧ isMut (H2 b))
    (c : ∀ (j : Nat) d, ρ2[j]? = some (some d) → (ρ1[j]? = some (some d) ∧ j ∉ W) ∨ (j ∈ O ∧ d.shallow = true) ∨ d.nl = true) : Sim K (fun b => P0 b ∨ A b) O W ρ2 σ H2 := by
  have fa : ∀ b, FA (fun b => P0 b ∨ A b) O σ b → FA P0 O σ b ∨ H1 b = none := fun b z => by
    rcases z with (z | z) | z
    · exact .inl (.inl z)
    · exact .inr (hA b z).1
    · exact .inl (.inr z)
  have kf : ∀ b o, H1 b = some o → ¬ FA P0 O σ b → H2 b = some o := fun b o e n => kp b o e fun z => n (.inr (S1.oaw z))
  refine ⟨S2.sub, S2.len, fun b z => ?_, fun j d e n => ?_, fun j d e n => ?_, S2.sep, fun a z y => ?_⟩
  · rcases z with (z | z) | z
    · exact S2.dom b (.inl z)
    · exact (hA b z).2
    · exact S2.dom b (.inr z)
  · rcases c j d e with ⟨e0, _⟩ | ⟨z, _⟩ | nl
    · obtain ⟨w, h1, h2⟩ := S1.val j d e0 n
      exact ⟨w, h1, h2.mono d S1.dom kf fa⟩
    · exact absurd z n
    · obtain ⟨w, h1, h2⟩ := S2.val j d e n
      exact ⟨w, h1, h2.nl nl⟩
  · rcases c j d e with ⟨e0, hw⟩ | ⟨_, sh⟩ | nl
    · obtain ⟨w, h1, h2⟩ := S1.own j d e0 n
      refine ⟨w, h1, h2.mono S1.dom kf fa fun a o e1 e2 => ?_⟩
      subst e1
      refine kp a o e2 fun ⟨x, hx, ex⟩ => ?_
      have := S1.sep x j a (S1.sub x hx) n ex h1
      exact hw (this ▸ hx)
    · obtain ⟨w, h1, h2⟩ := S2.own j d e n
      exact ⟨w, h1, h2.shallow sh⟩
    · obtain ⟨w, h1, h2⟩ := S2.own j d e n
      refine ⟨w, h1, ?_⟩
      cases d <;> first | exact h2 | (simp [D.nl] at nl)
  · rcases y with y | y
    · exact S2.sep0 a z y
    · have q := S1.dom a (.inr z)
      rw [(hA a y).1] at q
      exact q
end
section
variable {X : Cx} {P0 : Pr} {O W U : List Nat} {E : EK} {XE : XK} {c e e2 : Expr} {es : List Expr} {ms : AM} {mr : EM} {pos pos2 p p2 p3 px : Pos} {k np i : Nat} {name x : Str} {t : BM} {n : SM} {tl : List Stmt} {tr : D → Bool} {R : PySem.W.Frag → Pr → V → Hp → Prop} {vs qs : List Nat}
def rL (K : PySem.W.Frag) (A : Pr) (v : V) (H : Hp) : Prop := ∃ a ws M, v = .ref a ∧ A a ∧ ws.length < sizeLine ∧ H a = some (.lst ws) ∧ M + ws.length ≤ sizeLine ∧ ∀ w ∈ ws, ∃ b xs, w = V.ref b ∧ A b ∧ b ≠ a ∧ H b = some (.lst xs) ∧ xs.length < M
end
end Y

set_option Elab.async false
set_option linter.all false
set_option maxRecDepth 100000
namespace Y
open PySem PySem.Spec PyProof.Rows L2
section
variable {X : Cx} {pins : List (Addr × Obj)} {σ : L2.St} {H : Hp} {s : Shared} {a b : Addr} {r : Value} {d : V} {k : List Key} {A : Around} {E : Value → Shared → Prop}
end
section
variable {X : Cx} {o e f : Expr} {td ty tx : TE} {apos cpos : Pos}
end
abbrev Grp := List (List Key × List Int)
def gAdd (k : List Key) (s : Int) : Grp → Grp
  | [] => [(k, [s])]
  | (k', l) :: g => if k' = k then (k', l ++ [s]) :: g else (k', l) :: gAdd k s g
/-- the groups lie in objects of their own, new since H1 -/
def GOk (H1 Hx : Hp) : Grp → List Addr → Prop
  | [], bs => bs = []
  | (_, l) :: g, bs => ∃ b r, bs = b :: r ∧ H1 b = none ∧ Hx b = some (.lst (l.map V.int)) ∧ b ∉ r ∧ GOk H1 Hx g r
def kvG : Grp → List Addr → List (List Key × V)
  | (k, _) :: g, b :: bs => (k, .ref b) :: kvG g bs
  | _, _ => []
section
variable {H1 Hx Hy : Hp}
theorem GOk.keep : ∀ {g : Grp} {bs : List Addr}, GOk H1 Hx g bs → (∀ b ∈ bs, Hy b = Hx b) → GOk H1 Hy g bs
  | [], bs, h, _ => h
  | (_, l) :: g, bs, ⟨b, r, e, h1, h2, h3, h4⟩, k => ⟨b, r, e, h1, by rw [k b (by simp [e])]; exact h2, h3, h4.keep fun c hc => k c (by simp [e, hc])⟩
theorem GOk.mem : ∀ {g : Grp} {bs : List Addr}, GOk H1 Hx g bs → ∀ b ∈ bs, H1 b = none ∧ ∃ l, Hx b = some (.lst l)
  | [], bs, h, b, hb => by
    have h : bs = [] := h
    rw [h] at hb
    cases hb
  | (_, l) :: g, bs, ⟨b0, r, e, h1, h2, h3, h4⟩, b, hb => by
    rw [e] at hb
    rcases List.mem_cons.mp hb with rfl | hb
    · exact ⟨h1, _, h2⟩
    · exact h4.mem b hb
theorem GOk.get {k : List Key} {s : Int} : ∀ {g : Grp} {bs : List Addr} {v : V}, GOk H1 Hx g bs → valV (kvG g bs) k = some v → ∃ b l, v = .ref b ∧ b ∈ bs ∧ Hx b = some (.lst (l.map V.int)) ∧ (∃ k', (k', l) ∈ g) ∧ GOk H1 (upd Hx b (.lst (l.map V.int ++ [.int s]))) (gAdd k s g) bs ∧ kvG (gAdd k s g) bs = kvG g bs
  | [], bs, v, h, e => by cases e
  | (k', l) :: g, bs, v, ⟨b, r, eb, h1, h2, h3, h4⟩, e => by
    subst eb
    unfold gAdd
    by_cases c : k' = k
    · have e : valV ((k', V.ref b) :: kvG g r) k = some v := e
      rw [valV_pos c] at e
      cases e
      rw [if_pos c]
      refine ⟨b, l, rfl, by simp, h2, ⟨k', by simp⟩, ⟨b, r, rfl, h1, by rw [upd_same, List.map_append]; rfl, h3, h4.keep fun c hc => upd_ne fun z => h3 (by rw [← z]; exact hc)⟩, rfl⟩
    · have e : valV ((k', V.ref b) :: kvG g r) k = some v := e
      rw [valV_neg c] at e
      obtain ⟨b2, l2, e1, e2, e3, ⟨k2, ek⟩, e4, e5⟩ := h4.get (s := s) e
      rw [if_neg c]
      refine ⟨b2, l2, e1, by simp [e2], e3, ⟨k2, by simp [ek]⟩, ⟨b, r, rfl, h1, by rw [upd_ne fun z => h3 (by rw [z]; exact e2)]; exact h2, h3, e4⟩, ?_⟩
      show (k', V.ref b) :: kvG (gAdd k s g) r = (k', V.ref b) :: kvG g r
      rw [e5]
theorem GOk.len : ∀ {g : Grp} {bs : List Addr}, GOk H1 Hx g bs → (kvG g bs).length = g.length ∧ bs.length = g.length
  | [], bs, h => by
    have h : bs = [] := h
    subst h
    exact ⟨rfl, rfl⟩
  | (k, l) :: g, bs, ⟨b, r, e, _, _, _, h⟩ => by
    subst e
    have := h.len
    exact ⟨by show (kvG g r).length + 1 = _; rw [this.1]; rfl, by simp [this.2]⟩
end
section
variable {K : PySem.W.Frag} {P0 : Pr} {O W U : List Nat} {ρ : Y.Env} {σ σ3 : L2.St} {H1 H3 : Hp} {i : Nat} {sl : List Nat}
end
section
variable {X : Cx} {P0 : Pr} {O W U : List Nat} {E : EK} {tg iter : Expr} {pos pos3 p1 p2 p3 p4 p5 ap ap2 cp cp2 : Pos} {x ya yb ys : Str}
end
end Y

set_option Elab.async false
set_option linter.all false
set_option maxRecDepth 100000
namespace Y
open PySem PySem.Spec PyProof.Rows L2
section
variable {prog : Program} {w : World} {A : Around} {E : Value → Shared → Prop} {s : Shared}
end
section
variable {X : Cx}
end
end Y

set_option Elab.async false
set_option linter.all false
set_option maxRecDepth 100000
namespace Y
open PySem PySem.Spec PyProof.Rows L2
theorem SqL.laid {K : PySem.W.Frag} {H : Hp} {a D : Addr} {xs : List V} {o : HO} (h : SqL K H a xs) (n : H D = none) : SqL K (upd H D o) a xs := by
  rcases h with h | h
  · refine .inl (h.imp (fun e => ?_) fun ⟨o, e⟩ => ⟨o, ?_⟩)
    · rw [upd_ne (ne_of_none e n)]; exact e
    · rw [upd_ne (ne_of_none e n)]; exact e
  · exact .inr h
section
variable {X : Cx} {i j : Nat}
end
end Y

set_option Elab.async false
set_option linter.all false
set_option maxRecDepth 100000
namespace Y
open PySem PySem.Spec PyProof.Rows L2
theorem _root_.L2H.RoomH.units65 {k : Nat} {A : Around} (r : L2H.RoomH k A) : A.units + 65 < cLine := by have := r.un; omega
section
variable {X : Cx} {P0 : Pr} {O W U : List Nat} {i : Nat} {ad : Addr} {a b c e : Expr} {es : List Expr} {ma mb mc : EM} {ms : AM} {bm bn : BM} {pos : Pos}
end
end Y

set_option Elab.async false
set_option linter.all false
set_option maxRecDepth 100000
namespace Y
open PySem PySem.Spec PyProof.Rows L2
theorem _root_.L2H.RoomH.units {k : Nat} {A : Around} (r : L2H.RoomH k A) : A.units + 64 < cLine := by have := r.un; omega
section
variable {X : Cx} {P0 : Pr} {O W U : List Nat} {i j : Nat}
end
end Y

set_option Elab.async false
set_option linter.all false
set_option maxRecDepth 100000
namespace Y
open PySem PySem.Spec PyProof.Rows L2
section
variable {K : PySem.W.Frag} {O W : List Nat} {a : Addr} {o : Obj}
end
section
variable {X : Cx} {P0 : Pr} {O W U : List Nat} {E : EK} {tg e : Expr} {ma : EM}
end
variable {ρ : Env}
end Y

set_option Elab.async false
set_option linter.all false
set_option maxRecDepth 100000
namespace Y
open PySem PySem.Spec PyProof.Rows L2
section
variable {prog : Program} {w : World} {A : Around} {E : Value → Shared → Prop}
end
section
variable {X : Cx}
end
end Y

set_option Elab.async false
set_option linter.all false
set_option maxRecDepth 100000
namespace Y
open PySem PySem.Spec PyProof.Rows L2
section
variable {prog : Program} {w : World} {A : Around} {E : Value → Shared → Prop} {s : Shared} {z TI TO T i1 i2 : Addr} {fp1 fp2 : List Addr} {n1 n2 i : Nat} {P1 P2 : Nat → Value → Prop} {St1 St2 : Nat → Heap → Prop} {f : Bool} {oT : Obj}
theorem zipH_item {Q : Value → Shared → Prop} (S : ZipSep2 z TI TO i1 i2 fp1 fp2) (D1 : Draws prog w A i1 fp1 n1 P1 St1) (D2 : Draws prog w A i2 fp2 n2 P2 St2)
    (hz : IsZipHeld s.heap z TI TO T f) (hT : s.heap.get? T = some oT) (hTI : IsTupOf2 s.heap TI (.ref i1) (.ref i2)) (st1 : St1 i s.heap) (st2 : St2 i s.heap) (lt1 : i < n1) (lt2 : i < n2)
    (q : ∀ x1 x2 h' tk, P1 i x1 → P2 i x2 → IsZipHeld h' z TI TO T true → St1 (i + 1) h' → St2 (i + 1) h' → IsTupOf2 h' s.heap.objs.size x1 x2 → (∀ c o, c ≠ z → c ≠ i1 → c ≠ i2 → s.heap.get? c = some o → h'.get? c = some o) → Q (.ref s.heap.objs.size) { s with heap := h', toks := tk }) :
    wpAny (model prog w) A (Builtin.«zip.__next__» ⟨[.ref z], []⟩) (fun fin s' => ∃ v, fin = .done (.ret v) ∧ Q v s') E s := by
  obtain ⟨hp, g, d, tk0, os⟩ := s
  show wpAny _ _ (field (.ref z) 2 >>= _) _ _ _
  refine wpAny_bind (wpAny_field hz rfl (x := .bool false) rfl ?_)
  show wpAny _ _ (field (.ref z) 3 >>= _) _ _ _
  refine wpAny_bind (wpAny_field hz rfl (x := .ref TI) rfl ?_)
  refine wpAny_bind (wpAny_seqItems hTI rfl ?_)
  show wpAny _ _ (Builtin.SmallTypes.ownedTupleIsFree (.ref z) >>= _) _ _ _
  refine wpAny_bind (wpAny_tupleHeld_zip hz hT fun g0 hz0 hs0 => ?_)
  replace hs0 : Heap.SameBut z hp g0 := hs0
  simp only [Bool.false_eq_true, if_false]
  refine wpAny_bind ?_
  rw [← Array.forIn_toList]
  simp only [List.forIn_cons, List.forIn_nil]
  refine wpAny_bind (wpAny_bind (wpAny_holding ?_))
  show wpAny _ _ (Builtin.SmallTypes.nextOf (.ref i1) >>= _) _ _ ⟨g0, g, d, tk0, os⟩
  refine wpAny_bind (D1.item i _ _ _ lt1 (D1.over st1 hs0 S.zf1) fun x1 p1 tk1 y1 sn1 hp1 => wpAny_pure ?_)
  replace hp1 : Heap.SameBut i1 g0 p1 := hp1
  refine wpAny_pure ?_
  refine wpAny_bind (wpAny_bind (wpAny_holding ?_))
  show wpAny _ _ (Builtin.SmallTypes.nextOf (.ref i2) >>= _) _ _ ⟨p1, g, d, tk1, os⟩
  refine wpAny_bind (D2.item i _ _ _ lt2 (D2.over (D2.over st2 hs0 S.zf2) hp1 S.sep1_2) fun x2 p2 tk2 y2 sn2 hp2 => wpAny_pure ?_)
  replace hp2 : Heap.SameBut i2 p1 p2 := hp2
  refine wpAny_pure (wpAny_pure ?_)
  show wpAny _ _ (newTuple [x1, x2] >>= _) _ _ ⟨p2, g, d, tk2, os⟩
  refine wpAny_bind (wpAny_newTuple ?_)
  have es : p2.objs.size = hp.objs.size := by rw [hp2.1, hp1.1, hs0.1]
  have hz3 : IsZipHeld p2 z TI TO T true := hp2.extBut _ _ S.zi2 (hp1.extBut _ _ S.zi1 hz0)
  have hk : ∀ c o, c ≠ z → c ≠ i1 → c ≠ i2 → hp.get? c = some o → p2.get? c = some o := fun c o c1 c2 c3 e => hp2.extBut _ _ c3 (hp1.extBut _ _ c2 (hs0.extBut _ _ c1 e))
  have j1 : St1 (i + 1) p2 := D1.over sn1 hp2 S.sep2_1
  refine wpAny_pure ⟨_, rfl, ?_⟩
  show Q (.ref p2.objs.size) _
  have hT2 : IsTupOf2 (p2.push { cls := .type "tuple", data := .seq #[x1, x2] }) p2.objs.size x1 x2 := Heap.get?_push_size _ rfl
  rw [es] at hT2 ⊢
  exact q x1 x2 _ tk2 y1 y2 (Heap.get?_push_of_some _ hz3) (D1.frame _ _ _ j1 fun b _ o e => Heap.get?_push_of_some _ e) (D2.frame _ _ _ sn2 fun b _ o e => Heap.get?_push_of_some _ e) hT2 fun c o c1 c2 c3 e => Heap.get?_push_of_some _ (hk c o c1 c2 c3 e)
theorem zipH_end {Q : PySem.Fin → Shared → Prop} (S : ZipSep2 z TI TO i1 i2 fp1 fp2) (D1 : Draws prog w A i1 fp1 n1 P1 St1) (D2 : Draws prog w A i2 fp2 n2 P2 St2)
    (hz : IsZipHeld s.heap z TI TO T f) (hT : s.heap.get? T = some oT) (hTI : IsTupOf2 s.heap TI (.ref i1) (.ref i2)) (st1 : St1 i s.heap) (st2 : St2 i s.heap) (le1 : i ≤ n1) (le2 : i ≤ n2) (hend : i = n1 ∨ i = n2)
    (q : ∀ h' tk e, (∀ c o, c ≠ z → c ≠ i1 → c ≠ i2 → s.heap.get? c = some o → h'.get? c = some o) → (∃ o, h'.get? e = some o ∧ o.cls = .type "StopIteration") → E (.ref e) { s with heap := h', toks := tk }) :
    wpAny (model prog w) A (Builtin.«zip.__next__» ⟨[.ref z], []⟩) Q E s := by
  obtain ⟨hp, g, d, tk0, os⟩ := s
  show wpAny _ _ (field (.ref z) 2 >>= _) _ _ _
  refine wpAny_bind (wpAny_field hz rfl (x := .bool false) rfl ?_)
  show wpAny _ _ (field (.ref z) 3 >>= _) _ _ _
  refine wpAny_bind (wpAny_field hz rfl (x := .ref TI) rfl ?_)
  refine wpAny_bind (wpAny_seqItems hTI rfl ?_)
  show wpAny _ _ (Builtin.SmallTypes.ownedTupleIsFree (.ref z) >>= _) _ _ _
  refine wpAny_bind (wpAny_tupleHeld_zip hz hT fun g0 hz0 hs0 => ?_)
  replace hs0 : Heap.SameBut z hp g0 := hs0
  simp only [Bool.false_eq_true, if_false]
  refine wpAny_bind ?_
  rw [← Array.forIn_toList]
  simp only [List.forIn_cons, List.forIn_nil]
  refine wpAny_bind (wpAny_bind (wpAny_holding ?_))
  show wpAny _ _ (Builtin.SmallTypes.nextOf (.ref i1) >>= _) _ _ ⟨g0, g, d, tk0, os⟩
  by_cases lt1 : i < n1
  · refine wpAny_bind (D1.item i _ _ _ lt1 (D1.over st1 hs0 S.zf1) fun x1 p1 tk1 y1 sn1 hp1 => wpAny_pure ?_)
    replace hp1 : Heap.SameBut i1 g0 p1 := hp1
    have e2 : i = n2 := by omega
    refine wpAny_pure ?_
    refine wpAny_bind (wpAny_bind (wpAny_holding ?_))
    show wpAny _ _ (Builtin.SmallTypes.nextOf (.ref i2) >>= _) _ _ ⟨p1, g, d, tk1, os⟩
    refine wpAny_bind (D2.done ⟨p1, g, d, tk1, os⟩ _ _ (by rw [← e2]; exact D2.over (D2.over st2 hs0 S.zf2) hp1 S.sep1_2) fun h' e hq he => ?_)
    replace hq : Heap.ExtBut i2 p1 h' := hq
    exact q h' tk1 e (fun c o c1 c2 c3 x => hq _ _ c3 (hp1.extBut _ _ c2 (hs0.extBut _ _ c1 x))) he
  · have e1 : i = n1 := by omega
    refine wpAny_bind (D1.done ⟨g0, g, d, tk0, os⟩ _ _ (by rw [← e1]; exact D1.over st1 hs0 S.zf1) fun h' e hq he => ?_)
    replace hq : Heap.ExtBut i1 g0 h' := hq
    exact q h' tk0 e (fun c o c1 c2 c3 x => hq _ _ c2 (hs0.extBut _ _ c1 x)) he
theorem next_zipH_item {Q : Option Value → Shared → Prop} (S : ZipSep2 z TI TO i1 i2 fp1 fp2) (D1 : Draws prog w A.in1 i1 fp1 n1 P1 St1) (D2 : Draws prog w A.in1 i2 fp2 n2 P2 St2)
    (hz : IsZipHeld s.heap z TI TO T f) (hT : s.heap.get? T = some oT) (hTI : IsTupOf2 s.heap TI (.ref i1) (.ref i2)) (st1 : St1 i s.heap) (st2 : St2 i s.heap) (lt1 : i < n1) (lt2 : i < n2)
    (q : ∀ x1 x2 h' tk, P1 i x1 → P2 i x2 → IsZipHeld h' z TI TO T true → St1 (i + 1) h' → St2 (i + 1) h' → IsTupOf2 h' s.heap.objs.size x1 x2 → (∀ c o, c ≠ z → c ≠ i1 → c ≠ i2 → s.heap.get? c = some o → h'.get? c = some o) → Q (some (.ref s.heap.objs.size)) { s with heap := h', toks := tk }) :
    wpAny (model prog w) A (pyNext (.ref z)) Q E s := by
  have ty : s.TypeIs (.ref z) "zip" := ⟨_, hz, rfl⟩
  unfold pyNext
  exact wpAny_bind (wpAny_attempt (wpAny_callSpecial?_slot (name := Str.ofString "__next__") ty F.slot_zip_next (wpAny_call_entry F.slot_zip_next ty F.entry_zip_next
      (zipH_item S D1 D2 hz hT hTI st1 st2 lt1 lt2 fun x1 x2 h' tk y1 y2 a b c e k => wpAny_pure (q x1 x2 h' tk y1 y2 a b c e k)) (F.args_zip_next_1 _))))
theorem next_zipH_end {Q : Option Value → Shared → Prop} (S : ZipSep2 z TI TO i1 i2 fp1 fp2) (D1 : Draws prog w A.in1 i1 fp1 n1 P1 St1) (D2 : Draws prog w A.in1 i2 fp2 n2 P2 St2)
    (hz : IsZipHeld s.heap z TI TO T f) (hT : s.heap.get? T = some oT) (hTI : IsTupOf2 s.heap TI (.ref i1) (.ref i2)) (st1 : St1 i s.heap) (st2 : St2 i s.heap) (le1 : i ≤ n1) (le2 : i ≤ n2) (hend : i = n1 ∨ i = n2)
    (q : ∀ h' tk, (∀ c o, c ≠ z → c ≠ i1 → c ≠ i2 → s.heap.get? c = some o → h'.get? c = some o) → Q none { s with heap := h', toks := tk }) : wpAny (model prog w) A (pyNext (.ref z)) Q E s := by
  have ty : s.TypeIs (.ref z) "zip" := ⟨_, hz, rfl⟩
  unfold pyNext
  refine wpAny_bind (wpAny_attempt (wpAny_callSpecial?_slot (name := Str.ofString "__next__") ty F.slot_zip_next (wpAny_call_entry F.slot_zip_next ty F.entry_zip_next
    (zipH_end S D1 D2 hz hT hTI st1 st2 le1 le2 hend fun h' tk e hk he => ?_) (F.args_zip_next_1 _))))
  obtain ⟨o, ho, hc⟩ := he
  refine wpAny_bind (wpAny_isInstance (T := "StopIteration") (b := true) ⟨o, ho, hc⟩ isSubtype_stop ?_)
  exact wpAny_pure (q _ _ hk)
end
end Y

set_option Elab.async false
set_option linter.all false
set_option maxRecDepth 100000
namespace Y
open PySem PySem.Spec PyProof.Rows L2
section
variable {prog : Program} {w : World} {A : Around} {E : Value → Shared → Prop} {s : Shared}
end
section
variable {prog : Program} {w : World} {A : Around} {E : Value → Shared → Prop} {s : Shared} {R : Result → Shared → Prop} {z TI TO i1 i2 S : Addr} {fp1 fp2 : List Addr} {n1 n2 i : Nat} {P1 P2 : Nat → Value → Prop} {St1 St2 : Nat → Heap → Prop}
/-- i pairs are out -/
def ZSt (z TI TO i1 i2 S : Addr) (St1 St2 : Nat → Heap → Prop) (i : Nat) (h : Heap) : Prop := IsTupOf2 h TI (.ref i1) (.ref i2) ∧ St1 i h ∧ St2 i h ∧
  ((IsZip h z TI TO .none ∧ ∃ a b, IsTupOf2 h TO a b) ∨ ∃ T f oT, IsZipHeld h z TI TO T f ∧ h.get? T = some oT ∧ T ≠ z ∧ T ≠ i1 ∧ T ≠ i2 ∧ T ≠ S)
theorem ZSt.ty {h : Heap} (x : ZSt z TI TO i1 i2 S St1 St2 i h) : ∃ o, h.get? z = some o ∧ o.cls = .type "zip" := by
  rcases x.2.2.2 with ⟨e, _⟩ | ⟨T, f, oT, e, _⟩
  · exact ⟨_, e, rfl⟩
  · exact ⟨_, e, rfl⟩
theorem ZSt.stay (Sp : ZipSep2 z TI TO i1 i2 fp1 fp2) (D1 : Draws prog w A i1 fp1 n1 P1 St1) (D2 : Draws prog w A i2 fp2 n2 P2 St2) {h h' : Heap} (x : ZSt z TI TO i1 i2 S St1 St2 i h) (nz : S ≠ z) (nI : S ≠ TI) (nO : S ≠ TO) (n1' : S ∉ fp1) (n2' : S ∉ fp2)
    (k : ∀ b o, b ≠ S → h.get? b = some o → h'.get? b = some o) : ZSt z TI TO i1 i2 S St1 St2 i h' := by
  obtain ⟨a, b, c, d⟩ := x
  refine ⟨k _ _ nI.symm a, D1.frame _ _ _ b fun q hq o e => k q o (fun e2 => n1' (e2 ▸ hq)) e, D2.frame _ _ _ c fun q hq o e => k q o (fun e2 => n2' (e2 ▸ hq)) e, ?_⟩
  rcases d with ⟨d1, y1, y2, d2⟩ | ⟨T, f, oT, d1, d2, d3, d4, d5, d6⟩
  · exact .inl ⟨k _ _ nz.symm d1, y1, y2, k _ _ nO.symm d2⟩
  · exact .inr ⟨T, f, oT, k _ _ nz.symm d1, k _ _ d6 d2, d3, d4, d5, d6⟩
theorem zl_item {Q : Option Value → Shared → Prop} (Sp : ZipSep2 z TI TO i1 i2 fp1 fp2) (D1 : Draws prog w A.in1 i1 fp1 n1 P1 St1) (D2 : Draws prog w A.in1 i2 fp2 n2 P2 St2) (x : ZSt z TI TO i1 i2 S St1 St2 i s.heap) (ls : S < s.heap.objs.size) (lt1 : i < n1) (lt2 : i < n2)
    (q : ∀ x1 x2 h' tk, P1 i x1 → P2 i x2 → ZSt z TI TO i1 i2 S St1 St2 (i + 1) h' → IsTupOf2 h' s.heap.objs.size x1 x2 → (∀ c o, c ≠ z → c ≠ TO → c ≠ i1 → c ≠ i2 → s.heap.get? c = some o → h'.get? c = some o) → Q (some (.ref s.heap.objs.size)) { s with heap := h', toks := tk }) :
    wpAny (model prog w) A (pyNext (.ref z)) Q E s := by
  obtain ⟨a, b, c, d⟩ := x
  have ne : ∀ {c : Addr} {o : Obj}, s.heap.get? c = some o → s.heap.objs.size ≠ c := fun e => Nat.ne_of_gt (Heap.lt_size e)
  obtain ⟨_, l1⟩ := D1.live _ _ b
  obtain ⟨_, l2⟩ := D2.live _ _ c
  rcases d with ⟨d1, y1, y2, d2⟩ | ⟨T, f, oT, d1, d2, d3, d4, d5, d6⟩
  · refine wpAny_pyNext_zipD2_item Sp D1 D2 d1 a d2 b c lt1 lt2 fun x1 x2 h' tk p1 p2 z' O' s1 s2 t' sz k => ?_
    exact q x1 x2 h' tk p1 p2 ⟨k _ _ Sp.TIz Sp.TITO Sp.TIi1 Sp.TIi2 a, s1, s2, .inr ⟨s.heap.objs.size, false, _, z', t', ne d1, ne l1, ne l2, Nat.ne_of_gt ls⟩⟩ t' k
  · refine next_zipH_item Sp D1 D2 d1 d2 a b c lt1 lt2 fun x1 x2 h' tk p1 p2 z' s1 s2 t' k => ?_
    exact q x1 x2 h' tk p1 p2 ⟨k _ _ Sp.TIz Sp.TIi1 Sp.TIi2 a, s1, s2, .inr ⟨T, true, oT, z', k _ _ d3 d4 d5 d2, d3, d4, d5, d6⟩⟩ t' fun c o c1 _ c3 c4 e => k c o c1 c3 c4 e
theorem zl_end {Q : Option Value → Shared → Prop} (Sp : ZipSep2 z TI TO i1 i2 fp1 fp2) (D1 : Draws prog w A.in1 i1 fp1 n1 P1 St1) (D2 : Draws prog w A.in1 i2 fp2 n2 P2 St2) (x : ZSt z TI TO i1 i2 S St1 St2 i s.heap) (le1 : i ≤ n1) (le2 : i ≤ n2) (hend : i = n1 ∨ i = n2)
    (q : ∀ h' tk, (∀ c o, c ≠ z → c ≠ TO → c ≠ i1 → c ≠ i2 → s.heap.get? c = some o → h'.get? c = some o) → Q none { s with heap := h', toks := tk }) : wpAny (model prog w) A (pyNext (.ref z)) Q E s := by
  obtain ⟨a, b, c, d⟩ := x
  rcases d with ⟨d1, y1, y2, d2⟩ | ⟨T, f, oT, d1, d2, d3, d4, d5, d6⟩
  · exact wpAny_pyNext_zipD2_end Sp D1 D2 d1 a d2 b c le1 le2 hend q
  · exact next_zipH_end Sp D1 D2 d1 d2 a b c le1 le2 hend fun h' tk k => q h' tk fun c o c1 _ c3 c4 e => k c o c1 c3 c4 e
/-- the pairs that are out -/
structure ZG (P1 P2 : Nat → Value → Prop) (lo : Addr) (h : Heap) (as : List Addr) : Prop where
  rise : as.Pairwise (· < ·)
  above : ∀ a ∈ as, lo < a
  pairs : ∀ (j : Nat) (a : Addr), as[j]? = some a → ∃ x y, P1 j x ∧ P2 j y ∧ IsTupOf2 h a x y
theorem ZG.there {lo : Addr} {h : Heap} {as : List Addr} (g : ZG P1 P2 lo h as) {a : Addr} (ha : a ∈ as) : a < h.objs.size := by
  obtain ⟨j, hj⟩ := List.mem_iff_getElem?.mp ha
  obtain ⟨_, _, _, _, e⟩ := g.pairs j a hj
  exact Heap.lt_size e
end
end Y

set_option Elab.async false
set_option linter.all false
set_option maxRecDepth 100000
namespace Y
open PySem PySem.Spec PyProof.Rows L2
section
variable {X : Cx} {pins : List (Addr × Obj)} {σ : L2.St} {H : Hp} {s : Shared}
end
section
variable {X : Cx} {P0 : Pr} {O W : List Nat} {E : EK} {a b : Expr} {ms : AM} {pos : Pos}
end
variable {ρ : Y.Env}
end Y

set_option Elab.async false
set_option linter.all false
set_option maxRecDepth 100000
namespace Y
open PySem PySem.Spec PyProof.Rows L2
section
variable {X : Cx}
end
end Y

set_option Elab.async false
set_option linter.all false
set_option maxRecDepth 100000
namespace Y
open PySem PySem.Spec PyProof.Rows L2
section
variable {κ : Type} [DecidableEq κ]
theorem stored_nd {acc : List (κ × Value)} {k : κ} {v : Value} (h : k ∉ acc.map (·.1)) : stored acc k v = acc ++ [(k, v)] := by
  unfold stored
  rw [if_neg]
  intro z
  obtain ⟨p, hp, e⟩ := List.any_eq_true.mp z
  exact h (List.mem_map.mpr ⟨p, hp, of_decide_eq_true e⟩)
theorem merged_nd : ∀ {more acc : List (κ × Value)}, ((acc ++ more).map (·.1)).Nodup → merged acc more = acc ++ more
  | [], acc, _ => (List.append_nil acc).symm
  | p :: more, acc, h => by
    have e : acc ++ p :: more = (acc ++ [(p.1, p.2)]) ++ more := by simp
    have n1 : p.1 ∉ acc.map (·.1) := by
      rw [List.map_append, List.map_cons] at h
      have := (List.nodup_append.mp h).2.2
      exact fun z => this _ z _ List.mem_cons_self rfl
    show merged (stored acc p.1 p.2) more = _
    rw [stored_nd n1, e]
    exact merged_nd (by rw [← e]; exact h)
theorem storedH_nd {acc : List (κ × Addr × Value)} {k : κ} {b : Addr} {v : Value} (h : k ∉ acc.map (·.1)) : storedH acc k b v = acc ++ [(k, b, v)] := by
  unfold storedH
  rw [if_neg]
  intro z
  have : ∀ xs : List (κ × Addr × Value), (atKey xs k).isSome = true → k ∈ xs.map (·.1) := by
    intro xs
    induction xs with
    | nil => intro q; cases q
    | cons x xs ih =>
      intro q
      by_cases e : x.1 = k
      · rw [← e]; exact List.mem_cons_self
      · refine List.mem_cons_of_mem _ (ih ?_)
        simpa [atKey, e] using q
  exact h (this acc z)
theorem storedAllH_nd : ∀ {more acc : List (κ × Addr × Value)}, ((acc ++ more).map (·.1)).Nodup → storedAllH acc more = acc ++ more
  | [], acc, _ => (List.append_nil acc).symm
  | p :: more, acc, h => by
    have e : acc ++ p :: more = (acc ++ [(p.1, p.2.1, p.2.2)]) ++ more := by simp
    have n1 : p.1 ∉ acc.map (·.1) := by
      rw [List.map_append, List.map_cons] at h
      have := (List.nodup_append.mp h).2.2
      exact fun z => this _ z _ List.mem_cons_self rfl
    show storedAllH (storedH acc p.1 p.2.1 p.2.2) more = _
    rw [storedH_nd n1, e]
    exact storedAllH_nd (by rw [← e]; exact h)
end
theorem pairArg_zip {prog : Program} {w : World} {z TI TO i1 i2 : Addr} {fp1 fp2 : List Addr} {n1 n2 : Nat} {P1 P2 : Nat → Value → Prop} {St1 St2 : Nat → Heap → Prop} {A0 : Around} (h0 : A0.handled = none) (Sp : ZipSep2 z TI TO i1 i2 fp1 fp2)
    (D1 : ∀ A : Around, A.handled = none → Draws prog w A i1 fp1 n1 P1 St1) (D2 : ∀ A : Around, A.handled = none → Draws prog w A i2 fp2 n2 P2 St2)
    (t1 : ∀ h, St1 0 h → ∀ b ∈ fp1, ∃ o, h.get? b = some o) (t2 : ∀ h, St2 0 h → ∀ b ∈ fp2, ∃ o, h.get? b = some o) :
    PairArg prog w "zip" z (z :: TI :: TO :: (fp1 ++ fp2)) [z, TO, i1, i2] (min n1 n2) (fun i k v => P1 i k ∧ P2 i v)
      (fun h => IsZip h z TI TO .none ∧ IsTupOf2 h TI (.ref i1) (.ref i2) ∧ (∃ a b, IsTupOf2 h TO a b) ∧ St1 0 h ∧ St2 0 h) where
  type := fun s ok => ⟨_, ok.1, rfl⟩
  notDict := by decide
  keep := fun h h' ⟨hz, hI, ⟨a, b, hO⟩, s1, s2⟩ hk => ⟨hk _ _ hz, hk _ _ hI, ⟨a, b, hk _ _ hO⟩, (D1 _ h0).frame _ _ _ s1 fun q _ o e => hk q o e, (D2 _ h0).frame _ _ _ s2 fun q _ o e => hk q o e⟩
  there := fun h ⟨hz, hI, ⟨a, b, hO⟩, s1, s2⟩ q hq => by
    rcases List.mem_cons.mp hq with rfl | hq
    · exact ⟨_, hz⟩
    rcases List.mem_cons.mp hq with rfl | hq
    · exact ⟨_, hI⟩
    rcases List.mem_cons.mp hq with rfl | hq
    · exact ⟨_, hO⟩
    rcases List.mem_append.mp hq with hq | hq
    · exact t1 _ s1 _ hq
    · exact t2 _ s2 _ hq
  sub := fun b hb => by
    have hb : b = z ∨ b = TO ∨ b = i1 ∨ b = i2 := by simpa using hb
    rcases hb with rfl | rfl | rfl | rfl
    · simp
    · simp
    · have := Sp.mem1; simp [this]
    · have := Sp.mem2; simp [this]
  noKeys := fun A s Q E hA ok h => getAttrOr_miss_zip ok.1 rfl rfl rfl zip_no_keys (by decide +kernel) hA h
  iter := fun A s d Q E hA ok hd hdf h => by
    obtain ⟨hz, hI, ⟨a, b, hO⟩, s1, s2⟩ := ok
    have hA1 : A.in1.handled = none := hA
    have nz : d ≠ z := fun e => hdf (by rw [e]; simp)
    have nI : d ≠ TI := fun e => hdf (by rw [e]; simp)
    have nO : d ≠ TO := fun e => hdf (by rw [e]; simp)
    have m1 : d ∉ fp1 := fun e => hdf (by simp [e])
    have m2 : d ∉ fp2 := fun e => hdf (by simp [e])
    refine wpAny_pyIter_zip hz (h z [z, TO, i1, i2] (ZSt z TI TO i1 i2 d St1 St2) s.heap s.toks ?_ ⟨hI, s1, s2, .inl ⟨hz, a, b, hO⟩⟩ (fun _ _ e => e) fun b hb => .inl hb)
    exact {
      off := fun hm => by
        have hb : d = z ∨ d = TO ∨ d = i1 ∨ d = i2 := by simpa using hm
        rcases hb with e | e | e | e
        · exact nz e
        · exact nO e
        · exact m1 (e ▸ Sp.mem1)
        · exact m2 (e ▸ Sp.mem2)
      frame := fun i h₁ h₂ st hk => ZSt.stay Sp (D1 _ hA1) (D2 _ hA1) st nz nI nO m1 m2 hk
      item := fun i s₁ Q₁ E₁ hi st hds hQ => zl_item Sp (D1 _ hA1) (D2 _ hA1) st hds (Nat.lt_of_lt_of_le hi (Nat.min_le_left ..)) (Nat.lt_of_lt_of_le hi (Nat.min_le_right ..)) fun x1 x2 h' tk p1 p2 st' t' k =>
        hQ s₁.heap.objs.size x1 x2 h' tk ⟨p1, p2⟩ (.inl ⟨_, t', rfl, _, rfl⟩) st' fun c o hc e => k c o (fun q => hc (by simp [q])) (fun q => hc (by simp [q])) (fun q => hc (by simp [q])) (fun q => hc (by simp [q])) e
      done := fun s₁ Q₁ E₁ st hQ => zl_end Sp (D1 _ hA1) (D2 _ hA1) st (Nat.min_le_left ..) (Nat.min_le_right ..) (by omega) fun h' tk k =>
        hQ h' tk fun c o hc e => k c o (fun q => hc (by simp [q])) (fun q => hc (by simp [q])) (fun q => hc (by simp [q])) (fun q => hc (by simp [q])) e }
section
variable {X : Cx} {pins : List (Addr × Obj)} {σ : L2.St} {H : Hp} {s : Shared}
/-- .. at any depth of the stack -/
theorem Kd.drawA {k : Kd} {it : Addr} {tk : Tok} {i : Nat} {xs : List V} (I : Inv X pins σ H s) (h : k.has X.K H xs) (lo : ∀ a, k = .l a ∨ k = .t a → a ≠ it) (st : k.at it tk i s.heap) :
    ∃ fp P S, (∀ A : Around, A.handled = none → Kd.Drw X A k it tk xs fp P S) ∧ S i s.heap ∧ (∀ h, S 0 h → ∀ b ∈ fp, ∃ o, h.get? b = some o) ∧ ((∀ z, k ≠ .s z) → ∃ its, Vals xs its ∧ ∀ j v, P j v → its[j]? = some v) := by
  cases k with
  | l a =>
    obtain ⟨its, rv, p, _⟩ := I.list h
    have hl : its.toArray.size = xs.length := by simp [rv.length]
    have D := fun (A : Around) (hh : A.handled = none) => Draws.list (prog := X.prog) (w := X.w) hh it a (lo a (.inl rfl)) its.toArray
    rw [hl] at D
    refine ⟨_, _, _, fun A hh => ⟨D A hh, by simp, fun b hb => by simpa [eq_comm] using hb, fun j h z => z.1, fun j v z => by
      rw [List.getElem?_toArray] at z
      exact vals_at rv z⟩, ⟨st, p.isList⟩, fun h z b hb => ?_, fun _ => ⟨its, rv, fun j v z => by rw [List.getElem?_toArray] at z; exact z⟩⟩
    have hb : b = it ∨ b = a := by simpa using hb
    rcases hb with rfl | rfl
    · obtain ⟨o, e, _⟩ := z.1; exact ⟨o, e⟩
    · obtain ⟨o, e, _⟩ := z.2; exact ⟨o, e⟩
  | t a =>
    obtain ⟨its, rv, p, _⟩ := I.tuple h
    have hl : its.toArray.size = xs.length := by simp [rv.length]
    have D := fun (A : Around) (hh : A.handled = none) => Draws.tuple (prog := X.prog) (w := X.w) hh it a (lo a (.inr rfl)) its.toArray
    rw [hl] at D
    refine ⟨_, _, _, fun A hh => ⟨D A hh, by simp, fun b hb => by simpa [eq_comm] using hb, fun j h z => z.1, fun j v z => by
      rw [List.getElem?_toArray] at z
      exact vals_at rv z⟩, ⟨st, p⟩, fun h z b hb => ?_, fun _ => ⟨its, rv, fun j v z => by rw [List.getElem?_toArray] at z; exact z⟩⟩
    have hb : b = it ∨ b = a := by simpa using hb
    rcases hb with rfl | rfl
    · obtain ⟨o, e, _⟩ := z.1; exact ⟨o, e⟩
    · obtain ⟨o, e, _⟩ := z.2; exact ⟨o, e⟩
  | s z =>
    have h : xs = strV z := h
    have hl : z.cps.size = xs.length := by rw [h]; simp [strV]
    have D := fun (A : Around) (hh : A.handled = none) => Draws.text (prog := X.prog) (w := X.w) hh it z tk
    rw [hl] at D
    refine ⟨_, _, _, fun A hh => ⟨D A hh, by simp, fun b hb => .inl (by simpa using hb), fun j h z => z, fun j v ⟨c, u, e1, e2⟩ => by
      refine ⟨.str ⟨#[c]⟩, ?_, u, e2⟩
      rw [h, strV, List.getElem?_map, Array.getElem?_toList, e1]
      rfl⟩, st, fun h z b hb => ?_, fun n => absurd rfl (n z)⟩
    have hb : b = it := by simpa using hb
    subst hb
    obtain ⟨o, e, _⟩ := z; exact ⟨o, e⟩
end
end Y

set_option Elab.async false
set_option linter.all false
set_option maxRecDepth 100000
namespace Y
open PySem PySem.Spec PyProof.Rows L2
def adrV : V → Addr
  | .ref a => a
  | _ => 0
def RK (kvs : List (Key × V)) (ps : List (V × V)) : Prop := Paired (fun (p : Key × V) (q : V × V) => p.2 = q.2 ∧ q.1 = kV p.1) kvs ps
def RT (H : Hp) (kvs : List (List Key × V)) (ps : List (V × V)) : Prop := Paired (fun (p : List Key × V) (q : V × V) => p.2 = q.2 ∧ ∃ b, q.1 = .ref b ∧ H b = some (.tup (p.1.map kV))) kvs ps
def tDictZip (K : PySem.W.Frag) (ta : TA) : TE := fun σ H Q => ta σ H fun vs H1 => ∃ k1 k2 xs ys, vs = [Kd.val k1, Kd.val k2] ∧ k1.has K H1 xs ∧ k2.has K H1 ys ∧ (∀ z, k2 ≠ .s z) ∧ (xs.zip ys).length ≤ sizeLine ∧
  ((∃ kvs, RK kvs (xs.zip ys) ∧ (kvs.map (·.1)).Nodup ∧ ∀ p, H1 p = none → Q (.ref p) (upd H1 p (.dK kvs))) ∨
   ∃ kvs, RT H1 kvs (xs.zip ys) ∧ (kvs.map (·.1)).Nodup ∧ ∀ p, H1 p = none → Q (.ref p) (upd H1 p (.dT kvs)))
theorem paired_len {α β : Type} {F : α → β → Prop} {l : List α} {m : List β} (h : Paired F l m) : l.length = m.length := Paired.length h
theorem paired_at {α β : Type} {F : α → β → Prop} : ∀ {l : List α} {m : List β} {j : Nat} {b : β}, Paired F l m → m[j]? = some b → ∃ a, l[j]? = some a ∧ F a b
  | _, _, _, _, .nil, e => by simp at e
  | a :: _, _, 0, _, .cons r _, e => by simp at e; subst e; exact ⟨a, rfl, r⟩
  | _ :: l, _, j + 1, _, .cons _ t, e => by simpa using paired_at (j := j) t (by simpa using e)
theorem paired_of {α β : Type} {F : α → β → Prop} : ∀ {l : List α} {m : List β}, l.length = m.length → (∀ (j : Nat) a b, l[j]? = some a → m[j]? = some b → F a b) → Paired F l m
  | [], [], _, _ => .nil
  | [], _ :: _, h, _ => by simp at h
  | _ :: _, [], h, _ => by simp at h
  | a :: l, b :: m, h, f => .cons (f 0 a b rfl rfl) (paired_of (by simpa using h) fun j x y e1 e2 => f (j + 1) x y (by simpa using e1) (by simpa using e2))
theorem keysZip {κ : Type} {kvs : List (κ × V)} {its : List Value} {n : Nat} (h1 : kvs.length = n) (h2 : n ≤ its.length) {j : Nat} {p : κ × V} {u : Value} (e : kvs[j]? = some p) (e2 : its[j]? = some u) : ((kvs.map (·.1)).zip its)[j]? = some (p.1, u) :=
  List.getElem?_zip_eq_some.mpr ⟨by rw [List.getElem?_map, e]; rfl, e2⟩
theorem fstZip {κ β : Type} {ks : List κ} {m : List β} (h : ks.length ≤ m.length) : (ks.zip m).map (·.1) = ks := by
  rw [show (fun x : κ × β => x.1) = Prod.fst from rfl, List.map_fst_zip h]
section
variable {X : Cx} {pins : List (Addr × Obj)} {σ : L2.St} {H : Hp} {s : Shared}
theorem pe_dictZip {e e2 : Expr} {ta : TA} {p p2 q pos : Pos} (hun : X.A.units + 64 < cLine) (hc : X.calm = true) (hg : Gl X "dict") (hm : X.mg "dict" = none) (hg2 : Gl X "zip") (hm2 : X.mg "zip" = none) (ha : PA X [e, e2] ta)
    (hs : starEach [.Call (.Name "zip" p2) [e, e2] [] q] X.env = (false, eval (.Call (.Name "zip" p2) [e, e2] [] q) X.env) :: starEach [] X.env := by rfl)
    (hs2 : starEach [e, e2] X.env = (false, eval e X.env) :: starEach [e2] X.env := by rfl) (hpl : (backTo q (starEach [e2] X.env)).any (·.1) = false := by rfl) :
    PE X (.Call (.Name "dict" p) [.Call (.Name "zip" p2) [e, e2] [] q] [] pos) (tDictZip X.K ta) := by
  refine ⟨fun pins s σ H Q I h => ?_⟩
  refine wpAny_Call_Name_kw (ld_blt I hg hm PyProof.Rows.boot_dict ?_)
  refine PyProof.Rows.callWith_type1 ?_ hs rfl
  rw [hs]
  show wpAny _ _ (spliced ((false, eval (.Call (.Name "zip" p2) [e, e2] [] q) X.env) :: backTo pos (starEach [] X.env))) _ _ s
  refine Calls.spliced_cons ?_
  refine Call_ (ld_blt I hg2 hm2 PyProof.Rows.boot_zip (PyProof.Rows.callWith_type1 (thn (ha.run q pins s σ H _ I h) fun us s1 ⟨vs, H1, I1, r1, q1⟩ => ?_) hs2 hpl))
  obtain ⟨k1, k2, xs, ys, ex, h1, h2, nt, hz, qq⟩ := q1
  subst ex
  obtain ⟨u1, us1, rfl, r2, r3⟩ : ∃ u us', us = u :: us' ∧ RelV k1.val u ∧ Vals [k2.val] us' := by cases r1 with | cons a b => exact ⟨_, _, rfl, a, b⟩
  obtain ⟨u2, rfl, r4⟩ := vals1 r3
  obtain ⟨o1, G1, tk1, b1, g1, l1, m1⟩ := Kd.begins I1 h1 r2
  obtain ⟨o2, G2, tk2, b2, g2, l2, m2⟩ := Kd.begins I1 h2 r4
  refine zip_begins2 b1 b2 g1 g2 fun h' hzz hI hO e1 e2 hsz hk => Calls.spliced_nil ?_
  have I2 : Inv X pins σ H1 { s1 with heap := h' } := I1.kept (t' := s1.toks) hk
  have hh : X.A.handled = none := I1.ok.hd hc
  have cc : Cells5 s1.heap.objs.size k1 k2 := ⟨l1, l2⟩
  obtain ⟨fp1, P1, S1, d1, s1', t1, _⟩ := Kd.drawA I2 h1 (fun a e => ad (by have := Kd.lo_ne cc.lo1 a e; omega)) (m1 _ _ e1)
  obtain ⟨fp2, P2, S2, d2, s2', t2, o2⟩ := Kd.drawA I2 h2 (fun a e => ad (by have := Kd.lo_ne cc.lo2 a e; omega)) (m2 _ _ e2)
  obtain ⟨its, rv, fx⟩ := o2 nt
  have lz : (xs.zip ys).length = min xs.length ys.length := List.length_zip ..
  have PA := pairArg_zip hh (sep5 cc (d1 _ hh) (d2 _ hh)) (fun A hA => (d1 A hA).dr) (fun A hA => (d2 A hA).dr) t1 t2
  have ok : IsZip h' (s1.heap.objs.size + 4) (s1.heap.objs.size + 2) (s1.heap.objs.size + 3) .none ∧ IsTupOf2 h' (s1.heap.objs.size + 2) (.ref s1.heap.objs.size) (.ref (s1.heap.objs.size + 1)) ∧ (∃ a b, IsTupOf2 h' (s1.heap.objs.size + 3) a b) ∧ S1 0 h' ∧ S2 0 h' := ⟨hzz, hI, ⟨_, _, hO⟩, s1', s2'⟩
  have low : ∀ b : Nat, b < s1.heap.objs.size → b ∉ [s1.heap.objs.size + 4, s1.heap.objs.size + 3, s1.heap.objs.size, s1.heap.objs.size + 1] := fun b hb z => by
    have z : b = s1.heap.objs.size + 4 ∨ b = s1.heap.objs.size + 3 ∨ b = s1.heap.objs.size ∨ b = s1.heap.objs.size + 1 := by simpa using z
    omega
  have big : sysModules < h'.objs.size := I2.big
  have fr : H1 h'.objs.size = none := I2.hok.fresh (Nat.le_refl _)
  have lx : xs.length = xs.length := rfl
  rcases qq with ⟨kvs, rk, nd, qq⟩ | ⟨kvs, rk, nd, qq⟩
  · have lk : kvs.length = min xs.length ys.length := by rw [paired_len rk, lz]
    have li : kvs.length ≤ its.length := by rw [lk, ← rv.length]; exact Nat.min_le_right ..
    have mf : (((kvs.map (·.1)).zip its).map (·.1)) = kvs.map (·.1) := fstZip (by rw [List.length_map]; exact li)
    refine call_dict_pairs (knd := mixKind X.prog X.w) (kvs := (kvs.map (·.1)).zip its) (s := { s1 with heap := h' }) PA hh ok ⟨by rw [List.length_zip, List.length_map, Nat.min_eq_left li, lk], fun i key v ⟨y1, y2⟩ => ?_⟩ (by rw [← lz]; exact hz) fun h3 tk hd hk3 => ?_
    · obtain ⟨x, ex, rx⟩ := (d1 _ hh).item _ _ y1
      have ev := fx _ _ y2
      obtain ⟨y, ey, _⟩ := (d2 _ hh).item _ _ y2
      obtain ⟨pq, e3, e4, e5⟩ := paired_at rk (show (xs.zip ys)[i]? = some (x, y) from List.getElem?_zip_eq_some.mpr ⟨ex, ey⟩)
      refine ⟨pq.1, keysZip rfl li e3 ev, kV_is ?_⟩
      rw [← show x = kV pq.1 from e5]; exact rx
    · have mg : merged [] ((kvs.map (·.1)).zip its) = (kvs.map (·.1)).zip its := merged_nd (acc := []) (by rw [List.nil_append, mf]; exact nd)
      have hd : h3.DictOf (mixKind X.prog X.w) h'.objs.size ((kvs.map (·.1)).zip its) := by rw [← mg]; exact hd
      have kp : ∀ b o, s1.heap.get? b = some o → h3.get? b = some o := fun b o e => hk3 b o (low b (Heap.lt_size e)) (hk b o e)
      refine ⟨.ref h'.objs.size, _, I1.laid (a := h'.objs.size) (o := .dK kvs) (h' := h3) (t' := tk) kp (by rw [hsz]; exact Nat.le_add_right _ _) ⟨by rw [lk, ← lz]; exact hz, beq_eq_false_iff_ne.mpr (Ne.symm (Nat.ne_of_lt big)), (kvs.map (·.1)).zip its, ?_, hd⟩, rfl, qq _ fr⟩
      refine paired_of (by rw [List.length_zip, List.length_map, Nat.min_eq_left li]) fun j a b ea eb => ?_
      obtain ⟨f1, f2⟩ := List.getElem?_zip_eq_some.mp eb
      rw [List.getElem?_map, ea] at f1
      simp only [Option.map_some, Option.some.injEq] at f1
      refine ⟨f1, ?_⟩
      obtain ⟨y, ey, ry⟩ := vals_at rv f2
      obtain ⟨pq, e3, e4, _⟩ : ∃ pq : V × V, (xs.zip ys)[j]? = some pq ∧ a.2 = pq.2 ∧ True := by
        have hj : j < (xs.zip ys).length := by rw [← paired_len rk]; exact (List.getElem?_eq_some_iff.mp ea).1
        obtain ⟨a2, g1, g2, _⟩ := paired_at rk (List.getElem?_eq_getElem hj)
        rw [ea] at g1; cases g1
        exact ⟨_, List.getElem?_eq_getElem hj, g2, trivial⟩
      have := (List.getElem?_zip_eq_some.mp e3).2
      rw [ey] at this
      cases this
      rw [e4]; exact ry
  · have lk : kvs.length = min xs.length ys.length := by rw [paired_len rk, lz]
    have li : kvs.length ≤ its.length := by rw [lk, ← rv.length]; exact Nat.min_le_right ..
    have lx : kvs.length ≤ (xs.map adrV).length := by rw [lk, List.length_map]; exact Nat.min_le_left ..
    have l2 : kvs.length ≤ ((xs.map adrV).zip its).length := by rw [List.length_zip]; exact Nat.le_min.mpr ⟨lx, li⟩
    have ats : ∀ (j : Nat) (x : List Key × Addr × Value), ((kvs.map (·.1)).zip ((xs.map adrV).zip its))[j]? = some x → ∃ pq, kvs[j]? = some pq ∧ x.1 = pq.1 ∧ H1 x.2.1 = some (.tup (pq.1.map kV)) ∧ RelV pq.2 x.2.2 := fun j x ex => by
      obtain ⟨f1, f2⟩ := List.getElem?_zip_eq_some.mp ex
      obtain ⟨f3, f4⟩ := List.getElem?_zip_eq_some.mp f2
      rw [List.getElem?_map] at f1 f3
      obtain ⟨pq, g1, g2⟩ := Option.map_eq_some_iff.mp f1
      obtain ⟨xv, g3, g4⟩ := Option.map_eq_some_iff.mp f3
      obtain ⟨y, ey, ry⟩ := vals_at rv f4
      obtain ⟨a2, y1, y2, b, y3, y4⟩ := paired_at rk (show (xs.zip ys)[j]? = some (xv, y) from List.getElem?_zip_eq_some.mpr ⟨g3, ey⟩)
      rw [g1] at y1; cases y1
      have y3 : xv = V.ref b := y3
      subst y3
      refine ⟨pq, g1, g2.symm, ?_, ?_⟩
      · rw [← g4]; exact y4
      · rw [show pq.2 = y from y2]; exact ry
    have mf : ((kvs.map (·.1)).zip ((xs.map adrV).zip its)).map (·.1) = kvs.map (·.1) := fstZip (by rw [List.length_map]; exact l2)
    refine call_dict_pairsH (knd := tupleKind (mixKind X.prog X.w)) (ps := (kvs.map (·.1)).zip ((xs.map adrV).zip its)) (s := { s1 with heap := h' }) PA hh (by show X.A.units + 1 + 1 < cLine; omega) ok ⟨by rw [List.length_zip, List.length_map, Nat.min_eq_left l2, lk], fun i key v ⟨y1, y2⟩ => ?_⟩ (fun hq hkq x hx => ?_) (by rw [← lz]; exact hz) fun h3 tk hd hk3 => ?_
    · obtain ⟨x, ex, rx⟩ := (d1 _ hh).item _ _ y1
      have ev := fx _ _ y2
      obtain ⟨y, ey, _⟩ := (d2 _ hh).item _ _ y2
      obtain ⟨pq, e3, e4, b, e5, e6⟩ := paired_at rk (show (xs.zip ys)[i]? = some (x, y) from List.getElem?_zip_eq_some.mpr ⟨ex, ey⟩)
      have e5 : x = V.ref b := e5
      subst e5
      refine ⟨pq.1, b, List.getElem?_zip_eq_some.mpr ⟨by rw [List.getElem?_map, e3]; rfl, List.getElem?_zip_eq_some.mpr ⟨by rw [List.getElem?_map, ex]; rfl, ev⟩⟩, rx⟩
    · obtain ⟨j, hj⟩ := List.mem_iff_getElem?.mp hx
      obtain ⟨pq, g1, g2, g3, g4⟩ := ats j x hj
      obtain ⟨_, its', r, o, w1, w2, n, w3⟩ := (show ObjOk X.prog X.w H1 h' x.2.1 (.tup (pq.1.map kV)) from I2.hok _ _ g3)
      have w0 : x.2.1 < s1.heap.objs.size := (I1.hok.lt g3)
      rw [g2]
      exact ⟨o, its'.toArray, n, hkq _ _ (Nat.ne_of_lt (Heap.lt_size w1)) (low _ w0) w1, w2, w3, by simpa using items_are r⟩
    · have mg : storedAllH [] ((kvs.map (·.1)).zip ((xs.map adrV).zip its)) = (kvs.map (·.1)).zip ((xs.map adrV).zip its) := storedAllH_nd (acc := []) (by rw [List.nil_append, mf]; exact nd)
      rw [mg] at hd
      obtain ⟨o, es, ep, w1, w2, w3, w4, _, w6⟩ := hd
      have kp : ∀ b o, s1.heap.get? b = some o → h3.get? b = some o := fun b o e => hk3 b o (low b (Heap.lt_size e)) (hk b o e)
      refine ⟨.ref h'.objs.size, _, I1.laid (a := h'.objs.size) (o := .dT kvs) (h' := h3) (t' := tk) kp (by rw [hsz]; exact Nat.le_add_right _ _) ⟨by rw [lk, ← lz]; exact hz, beq_eq_false_iff_ne.mpr (Ne.symm (Nat.ne_of_lt big)), (kvs.map (·.1)).zip ((xs.map adrV).zip its), ?_, o, es, ep, w1, w2, w3, w4, w6⟩, rfl, qq _ fr⟩
      refine paired_of (by rw [List.length_zip, List.length_map, Nat.min_eq_left l2]) fun j a b ea eb => ?_
      obtain ⟨pq, g1, g2, g3, g4⟩ := ats j b eb
      rw [ea] at g1; cases g1
      refine ⟨g2.symm, ?_, g4⟩
      rw [upd_ne (fun z => by rw [z, fr] at g3; cases g3)]
      exact g3
end
def keysT : List D → Option (List (List Key))
  | [] => some []
  | .tup ys :: ds => match keysOf ys, keysT ds with
    | some k, some ks => some (k :: ks)
    | _, _ => none
  | _ :: _ => none
def seqD : D → R (List D)
  | .lst xs => .ok xs
  | .tup xs => .ok xs
  | _ => .stk
def dictZ (x y : D) : R D := do
  let xs ← itD x
  let ys ← seqD y
  if xs.length = ys.length ∧ szOk xs.length = true then
    match keysOf xs with
    | some ks => if ks.Nodup then .ok (.dik ks ys) else .stk
    | none => match keysT xs with
      | some ks => if ks.Nodup then .ok (.dit ks ys) else .stk
      | none => .stk
  else .stk
def cDictZip (m : AM) : EM := fun ρ => do
  let (hs, ρ1) ← m ρ
  match hs with
  | [h, h2] => do
    let x ← (h.d ρ1).nox
    let y ← (h2.d ρ1).nox
    let d ← (dictZ x y).nox
    pure (.fr d, ρ1)
  | _ => .stk
theorem keysT_rep {K : PySem.W.Frag} {H : Hp} {P : Pr} : ∀ {ds : List D} {vs : List V} {ks : List (List Key)}, Reps K H ds P vs → keysT ds = some ks → ks.length = vs.length ∧ ∀ (j : Nat) k v, ks[j]? = some k → vs[j]? = some v → ∃ b, v = .ref b ∧ H b = some (.tup (k.map kV))
  | [], vs, ks, h, e => by
    simp [keysT] at e; subst e
    have := h.nil_iff
    subst this
    exact ⟨rfl, fun j k v q => by simp at q⟩
  | d :: ds, vs, ks, h, e => by
    obtain ⟨v, ws, rfl, h1, h2⟩ := h.cons_iff
    cases d <;> simp only [keysT, reduceCtorEq] at e
    rename_i ys
    cases q : keysOf ys with
    | none => rw [q] at e; simp at e
    | some k =>
      cases r : keysT ds with
      | none => rw [q, r] at e; simp at e
      | some ks' =>
        rw [q, r] at e
        simp only [Option.some.injEq] at e
        subst e
        obtain ⟨i1, i2⟩ := keysT_rep h2 r
        refine ⟨by simp [i1], fun j k2 v2 e1 e2 => ?_⟩
        cases j with
        | succ j => exact i2 j k2 v2 (by simpa using e1) (by simpa using e2)
        | zero =>
          simp at e1 e2
          subst e1 e2
          unfold Rep at h1
          obtain ⟨b, us, rfl, g1, g2⟩ := h1
          exact ⟨b, rfl, by rw [g1, keysOf_rep g2 q]⟩
section
variable {X : Cx} {P0 : Pr} {O W : List Nat} {E : EK} {a b : Expr} {ms : AM} {pos : Pos}
theorem seqD_ok {y : D} {ys : List D} (h : seqD y = .ok ys) : itD y = .ok ys ∧ ∀ z, y ≠ .str z := by
  cases y <;> simp only [seqD, reduceCtorEq, R.ok.injEq] at h
  · subst h; exact ⟨rfl, fun z e => by cases e⟩
  · subst h; exact ⟨rfl, fun z e => by cases e⟩
theorem ce_dictZip {p p2 q : Pos} (hun : X.A.units + 64 < cLine) (hc : X.calm = true) (hm : X.mg "dict" = none) (hm2 : X.mg "zip" = none) (ha : CA X P0 O W E [a, b] ms) (hg : Gl X "dict" := by rfl) (hg2 : Gl X "zip" := by rfl)
    (hs : starEach [.Call (.Name "zip" p2) [a, b] [] q] X.env = (false, eval (.Call (.Name "zip" p2) [a, b] [] q) X.env) :: starEach [] X.env := by rfl)
    (hs2 : starEach [a, b] X.env = (false, eval a X.env) :: starEach [b] X.env := by rfl) (hpl : (backTo q (starEach [b] X.env)).any (·.1) = false := by rfl) :
    CEx X P0 O W E (.Call (.Name "dict" p) [.Call (.Name "zip" p2) [a, b] [] q] [] pos) (cDictZip ms) := PE.imp (pe_dictZip hun hc hg hm hg2 hm2 ha hs hs2 hpl) fun σ H Q ⟨ρ, S, h⟩ => by
  refine ⟨ρ, S, h.of_bind.mono fun ⟨hs, ρ1⟩ q vs H1 S1 k1 r1 => ?_⟩
  match hs, r1, q with
  | [h, h2], r1, q =>
    obtain ⟨v, ws, rfl, t1, t2⟩ := r1
    obtain ⟨w, us, rfl, t3, t4⟩ := t2
    have t4 : us = [] := t4
    subst t4
    obtain ⟨x, ex, q1⟩ := Res.of_nox (show Res E W σ H ((h.d ρ1).nox >>= _) _ from q)
    obtain ⟨y, ey, q2⟩ := q1.of_nox
    obtain ⟨d, ed, q3⟩ := q2.of_nox
    clear q q1 q2
    obtain ⟨xs, e1, ed⟩ := R.ok_of ed
    obtain ⟨ys, e2, ed⟩ := R.ok_of ed
    obtain ⟨e2, ns⟩ := seqD_ok e2
    obtain ⟨c1, vs1, rfl, f1, g1, _⟩ := (t1.d S1 ex).kd e1
    obtain ⟨c2, vs2, rfl, f2, g2, kk⟩ := (t3.d S1 ey).kd e2
    have nt : ∀ z, c2 ≠ .s z := fun z e => by
      subst e
      cases y <;> simp [kdOf, Kd.val] at kk
      · exact ns _ rfl
    by_cases c : xs.length = ys.length ∧ szOk xs.length = true
    · rw [if_pos c] at ed
      have l1 : vs1.length = xs.length := g1.length
      have l2 : vs2.length = ys.length := g2.length
      have lz : (vs1.zip vs2).length = xs.length := by rw [List.length_zip, l1, l2, ← c.1, Nat.min_self]
      refine ⟨c1, c2, vs1, vs2, rfl, f1, f2, nt, by rw [lz]; exact of_decide_eq_true c.2, ?_⟩
      cases ek : keysOf xs with
      | some ks =>
        rw [ek] at ed
        by_cases nd : ks.Nodup
        · have ed : (if ks.Nodup then R.ok (D.dik ks ys) else R.stk) = R.ok d := ed
          rw [if_pos nd] at ed
          cases ed
          have eks := keysOf_rep g1 ek
          have lk : ks.length = vs2.length := by rw [l2, ← c.1, ← l1, eks, List.length_map]
          refine .inl ⟨ks.zip vs2, paired_of (by rw [List.length_zip, List.length_zip]; have c1 := c.1; omega) fun j p pq ea eb => ?_, by rw [fstZip (Nat.le_of_eq lk)]; exact nd, fun p np => ?_⟩
          · obtain ⟨z1, z2⟩ := List.getElem?_zip_eq_some.mp ea
            obtain ⟨z3, z4⟩ := List.getElem?_zip_eq_some.mp eb
            rw [z2] at z4
            rw [eks, List.getElem?_map, z1] at z3
            refine ⟨Option.some.inj z4, (Option.some.inj z3).symm⟩
          · have kp : ∀ b o, H1 b = some o → upd H1 p (.dK (ks.zip vs2)) b = some o := fun b o e => by rw [upd_ne (ne_of_none e np)]; exact e
            have m2 := g2.mono ys S1.dom (fun b o e _ => kp b o e) (P' := fun b => FA P0 O σ b ∨ b = p) (fun b z => z.elim .inl fun z => .inr (by rw [z]; exact np))
            refine out_of (K := X.K) S1 k1 q3 _ _ kp ?_ fun _ a e => by cases e; exact np
            unfold Rep
            exact ⟨p, vs2, rfl, fun z => (S1.dom p z).some np, lk, .inl upd_same, m2⟩
        · have ed : (if ks.Nodup then R.ok (D.dik ks ys) else R.stk) = R.ok d := ed
          rw [if_neg nd] at ed
          cases ed
      | none =>
        rw [ek] at ed
        have ed : (match keysT xs with | some ks => if ks.Nodup then R.ok (D.dit ks ys) else R.stk | none => R.stk) = R.ok d := ed
        cases et : keysT xs with
        | none => rw [et] at ed; cases ed
        | some ks =>
          rw [et] at ed
          by_cases nd : ks.Nodup
          · have ed : (if ks.Nodup then R.ok (D.dit ks ys) else R.stk) = R.ok d := ed
            rw [if_pos nd] at ed
            cases ed
            obtain ⟨lk1, eks⟩ := keysT_rep g1 et
            have lk : ks.length = vs2.length := by rw [l2, ← c.1, ← l1, lk1]
            refine .inr ⟨ks.zip vs2, paired_of (by rw [List.length_zip, List.length_zip]; have c1 := c.1; omega) fun j p pq ea eb => ?_, by rw [fstZip (Nat.le_of_eq lk)]; exact nd, fun p np => ?_⟩
            · obtain ⟨z1, z2⟩ := List.getElem?_zip_eq_some.mp ea
              obtain ⟨z3, z4⟩ := List.getElem?_zip_eq_some.mp eb
              rw [z2] at z4
              refine ⟨Option.some.inj z4, eks j _ _ z1 z3⟩
            · have kp : ∀ b o, H1 b = some o → upd H1 p (.dT (ks.zip vs2)) b = some o := fun b o e => by rw [upd_ne (ne_of_none e np)]; exact e
              have m2 := g2.mono ys S1.dom (fun b o e _ => kp b o e) (P' := fun b => FA P0 O σ b ∨ b = p) (fun b z => z.elim .inl fun z => .inr (by rw [z]; exact np))
              refine out_of (K := X.K) S1 k1 q3 _ _ kp ?_ fun _ a e => by cases e; exact np
              unfold Rep
              exact ⟨p, vs2, rfl, fun z => (S1.dom p z).some np, lk, .inl upd_same, m2⟩
          · have ed : (if ks.Nodup then R.ok (D.dit ks ys) else R.stk) = R.ok d := ed
            rw [if_neg nd] at ed
            cases ed
    · rw [if_neg c] at ed
      cases ed
  | [], _, q => exact q.elim
  | [_], _, q => exact q.elim
  | _ :: _ :: _ :: _, _, q => exact q.elim
end
variable {ρ : Y.Env}
@[simp] theorem e_dictZip {m : AM} : cDictZip m ρ = (m ρ >>= fun p => match p.1 with | [h, h2] => ((h.d p.2).nox >>= fun x => (h2.d p.2).nox >>= fun y => (dictZ x y).nox >>= fun d => R.ok (.fr d, p.2)) | _ => .stk) := by
  unfold cDictZip; congr
end Y

set_option Elab.async false
set_option linter.all false
set_option maxRecDepth 100000
namespace Y
open PySem PySem.Spec PyProof.Rows L2
section
variable {X : Cx} {P0 : Pr} {O W U : List Nat} {E : EK} {e : Expr} {ma : EM} {K : PySem.W.Frag} {pos : Pos}
end
variable {ρ : Y.Env}
end Y

set_option Elab.async false
set_option linter.all false
set_option maxRecDepth 100000
namespace Y
open PySem PySem.Spec PyProof.Rows L2
section
variable {K : PySem.W.Frag} {O W : List Nat} {a : Addr} {o : Obj}
end
section
variable {K : PySem.W.Frag} {P0 : Pr} {O W : List Nat} {E : EK} {ρ : Y.Env} {σ : L2.St} {H : Hp} {m : EM} {Q : VK} {a : Addr} {u : HO}
end
section
variable {X : Cx} {P0 : Pr} {O W : List Nat} {E : EK} {tg : Expr} {pos : Pos}
end
variable {ρ : Y.Env}
end Y

set_option Elab.async false
set_option linter.all false
set_option maxRecDepth 100000
namespace Y.HR
open PySem PySem.Spec PyProof.Rows L2 _root_.HT PySem.W PySem.SeqAt PySem.AutoSeq1 PySem.MeetsSeq PySem.MeetsSeq2 PySem.MeetsSeq3
section
variable {prog : Program} {w : World} {A : Around} {E : Value → Shared → Prop} {s : Shared}
end
end Y.HR
namespace Y
open PySem PySem.Spec PyProof.Rows L2
section
variable {X : Cx} {e k : Expr} {te : TE} {p2 pos : Pos}
end
section
variable {X : Cx} {P0 : Pr} {O W : List Nat} {E : EK} {e k : Expr} {ma : EM} {mk : OM} {p2 pos : Pos}
end
variable {ρ : Y.Env}
end Y

set_option Elab.async false
set_option linter.all false
set_option maxRecDepth 100000
namespace Y
open PySem PySem.Spec PyProof.Rows L2
section
variable {X : Cx} {P0 : Pr} {O W : List Nat} {pos : Pos}
end
end Y

set_option Elab.async false
set_option linter.all false
set_option maxRecDepth 100000
namespace Y
open PySem PySem.Spec PyProof.Rows L2
section
variable {X : Cx} {P0 : Pr} {O W : List Nat} {E : EK} {a : Expr} {ma : EM} {pos : Pos}
end
variable {ρ : Y.Env}
end Y

set_option Elab.async false
set_option linter.all false
set_option maxRecDepth 100000
namespace Y
open PySem PySem.Spec PyProof.Rows L2
section
variable {X : Cx}
end
end Y

set_option Elab.async false
set_option linter.all false
set_option maxRecDepth 100000
namespace Y
open PySem PySem.Spec PyProof.Rows L2
section
variable {K : PySem.W.Frag} {P0 : Pr} {O W U : List Nat} {ρ : Y.Env} {σ : L2.St} {H : Hp} {i : Nat}
end
section
variable {X : Cx} {P0 : Pr} {O W U : List Nat} {E : EK} {st2 : Stmt} {sts : List Stmt} {m mr : SM}
end
end Y

set_option Elab.async false
set_option linter.all false
set_option maxRecDepth 100000
namespace Y
open PySem PySem.Spec PyProof.Rows L2
section
variable {X : Cx} {P0 : Pr} {O W : List Nat} {E : EK} {e f : Expr} {mk mv : EM}
end
variable {ρ : Y.Env}
end Y

set_option Elab.async false
set_option linter.all false
set_option maxRecDepth 100000
namespace Y
open PySem PySem.Spec PyProof.Rows L2
section
variable {prog : Program} {w : World} {d r : Addr} {es : Array DictEntry} {ep : Nat}
end
section
variable {X : Cx} {o : Expr} {td : TE} {p pos apos mpos : Pos}
end
section
variable {X : Cx} {P0 : Pr} {O W : List Nat} {E : EK}
end
variable {ρ : Y.Env}
end Y

set_option Elab.async false
set_option linter.all false
set_option maxRecDepth 100000
namespace Y
open PySem PySem.Spec PyProof.Rows L2
end Y

set_option Elab.async false
set_option linter.all false
set_option maxRecDepth 100000
namespace Y
open PySem PySem.Spec PyProof.Rows L2
section
variable {K : PySem.W.Frag} {P0 : Pr} {O W U : List Nat} {ρ : Y.Env} {σ : L2.St} {H : Hp} {i : Nat}
end
section
variable {X : Cx} {P0 : Pr} {O W U : List Nat} {E : EK} {st2 : Stmt} {sts : List Stmt} {m mr : SM}
end
section
variable {X : Cx} {P0 : Pr} {O W : List Nat} {E : EK} {pos : Pos}
end
end Y

set_option Elab.async false
set_option linter.all false
set_option maxRecDepth 100000
namespace Y
open PySem PySem.Spec PyProof.Rows L2
section
variable {X : Cx} {P0 : Pr} {O W : List Nat} {E : EK} {a e f : Expr} {ma mb mc : EM}
end
section
variable {K : PySem.W.Frag} {X : Cx} {P0 : Pr} {O W U : List Nat} {E : EK} {e f : Expr} {mi mx : EM} {pos : Pos}
end
variable {ρ : Y.Env}
end Y

set_option Elab.async false
set_option linter.all false
set_option maxRecDepth 100000
namespace Y
open PySem PySem.Spec PyProof.Rows L2
def runAll : List GM → List D → Env → R Env
  | tm :: tms, d :: ds, ρ => tm d ρ >>= fun ρ1 => runAll tms ds ρ1
  | _, _, ρ => .ok ρ
def tmMix (tms : List GM) : GM := fun d ρ => match d with
  | .tup ds => if ds.length = tms.length then runAll tms ds ρ else .stk
  | _ => .stk
def tGs (K : PySem.W.Frag) (P0 : Pr) (O W : List Nat) (tms : List GM) (is : List Nat) : TGs := fun vs σ H Q => ∃ ρ ds ρ', Sim K P0 O W ρ σ H ∧ ds.length = tms.length ∧ Reps K H ds (FA P0 O σ) vs ∧ runAll tms ds ρ = .ok ρ' ∧
  ∀ σ', Sim K P0 O W ρ' σ' H → σ'.length = σ.length → (∀ j, j ∉ is → σ'[j]? = σ[j]?) → Q σ' H
theorem PGs.imp {X : Cx} {e : List Expr} {t t' : TGs} (h : PGs X e t) (i : ∀ v σ H Q, t' v σ H Q → t v σ H Q) : PGs X e t' := by
  cases h with
  | mk h => exact ⟨fun pins s σ H v u Q I r q => h pins s σ H v u Q I r (i v σ H Q q)⟩
section
variable {X : Cx} {P0 : Pr} {O W : List Nat} {pos : Pos}
abbrev CGm (X : Cx) (P0 : Pr) (O W : List Nat) (tgs : List Expr) (tms : List GM) (is : List Nat) : Prop := PGs X tgs (tGs X.K P0 O W tms is)
theorem cgm_nil : CGm X P0 O W [] [] [] := PGs.imp pgs_nil fun vs σ H Q ⟨ρ, ds, ρ', S, hl, r, e, q⟩ => by
  cases ds with
  | nil =>
    cases e
    exact ⟨r.nil_iff, q σ S rfl fun _ _ => rfl⟩
  | cons _ _ => cases hl
theorem cgm_cons {e : Expr} {es : List Expr} {tm : GM} {tms : List GM} {is1 is2 : List Nat} (h1 : CG X P0 O W e tm is1) (h2 : CGm X P0 O W es tms is2) (ho : ∀ i ∈ is1, i ∉ O := by decide)
    (hs : (assignEach (e :: es) X.env).map (·.2) = assign e X.env :: (assignEach es X.env).map (·.2) := by rfl) : CGm X P0 O W (e :: es) (tm :: tms) (is1 ++ is2) := PGs.imp (pgs_cons h1 h2 hs) fun vs σ H Q ⟨ρ, ds, ρ', S, hl, r, e, q⟩ => by
  cases ds with
  | nil => cases hl
  | cons d ds =>
    obtain ⟨v, ws, rfl, r1, r2⟩ := r.cons_iff
    obtain ⟨ρ1, e1, e2⟩ := R.ok_of e
    refine ⟨v, ws, rfl, ρ, d, ρ1, S, r1, e1, fun σ1 S1 l1 u1 => ?_⟩
    have fa : ∀ j ∈ O, σ1[j]? = σ[j]? := fun j hj => u1 j fun z => ho j z hj
    refine ⟨ρ1, ds, ρ', S1, by simpa using hl, r2.less S.dom fun b z => (FA_of fa b).mp z, e2, fun σ2 S2 l2 u2 => q σ2 S2 (l2.trans l1) fun j hj => ?_⟩
    rw [u2 j fun z => hj (List.mem_append_right _ z), u1 j fun z => hj (List.mem_append_left _ z)]
theorem cg_mix {es : List Expr} {k : Nat} {tms : List GM} {is : List Nat} (hc : X.calm = true) (h : CGm X P0 O W es tms is) (hst : (assignEach es X.env).findIdx? (·.1) = none := by rfl) (hn : (assignEach es X.env).length = tms.length := by rfl) : CG X P0 O W (.Tuple es k pos) (tmMix tms) is :=
  PG.imp (pg_tup hc h hn hst) fun v σ H Q ⟨ρ, d, ρ', S, r, e, q⟩ => by
    unfold tmMix at e
    split at e
    · split at e
      · rename_i hl
        unfold Rep at r
        obtain ⟨a, vs, rfl, h1, h2⟩ := r
        exact ⟨a, vs, rfl, SqT.of h1, by rw [h2.length, hl], ρ, _, ρ', S, hl, h2, e, q⟩
      · cases e
    · cases e
end
section
variable {κ : Type} [DecidableEq κ]
end
@[simp] theorem e_tmM {tms : List GM} {ds : List D} {ρ : Y.Env} : tmMix tms (.tup ds) ρ = if ds.length = tms.length then runAll tms ds ρ else .stk := id rfl
@[simp] theorem e_run0 {ρ : Y.Env} : runAll [] [] ρ = .ok ρ := id rfl
@[simp] theorem e_run1 {tm : GM} {tms : List GM} {d : D} {ds : List D} {ρ : Y.Env} : runAll (tm :: tms) (d :: ds) ρ = (tm d ρ >>= fun ρ1 => runAll tms ds ρ1) := id rfl
end Y

set_option Elab.async false
set_option linter.all false
set_option maxRecDepth 100000
namespace Y
open PySem PySem.Spec PyProof.Rows L2 RT
section
variable {prog : Program} {w : World} {A : Around} {E : Value → Shared → Prop} {s : Shared}
end
section
variable {X : Cx}
end
section
variable {X : Cx} {P0 : Pr} {O W : List Nat} {E : EK} {e : Expr} {me : EM} {pos : Pos}
end
variable {ρ : Y.Env}
end Y

set_option Elab.async false
set_option linter.all false
set_option maxRecDepth 100000
namespace Y
open PySem PySem.Spec PyProof.Rows L2
end Y

set_option Elab.async false
set_option linter.all false
set_option maxRecDepth 100000
namespace Y
open PySem PySem.Spec PyProof.Rows L2
abbrev PrT := Addr × List Int
/-- what a set holds of the first i things -/
structure Has (ks : List PrT) (i : Nat) (L : List PrT) : Prop where
  low : ∀ q ∈ L, q ∈ ks.take i
  top : ∀ q ∈ ks.take i, q.2 ∈ L.map (·.2)
theorem Has.none (ks : List PrT) : Has ks 0 [] := ⟨fun q z => (nomatch z), fun q z => by simp at z⟩
theorem take_more {α : Type} {l : List α} {i : Nat} {x : α} (h : l[i]? = some x) : l.take (i + 1) = l.take i ++ [x] := by rw [List.take_add_one, h]; rfl
theorem Has.stay {ks L : List PrT} {i : Nat} {x : PrT} (g : Has ks i L) (h : ks[i]? = some x) (m : x.2 ∈ L.map (·.2)) : Has ks (i + 1) L := by
  refine ⟨fun q z => ?_, fun q z => ?_⟩
  · rw [take_more h]; exact List.mem_append_left _ (g.low q z)
  · rw [take_more h] at z
    rcases List.mem_append.mp z with z | z
    · exact g.top q z
    · rw [List.mem_singleton] at z; rw [z]; exact m
theorem Has.grow {ks L M : List PrT} {i : Nat} {x : PrT} (g : Has ks i L) (h : ks[i]? = some x) (pm : M.Perm (x :: L)) : Has ks (i + 1) M := by
  refine ⟨fun q z => ?_, fun q z => ?_⟩
  · rw [take_more h]
    rcases List.mem_cons.mp (pm.mem_iff.mp z) with rfl | z
    · exact List.mem_append_right _ (by simp)
    · exact List.mem_append_left _ (g.low q z)
  · refine (pm.map (·.2)).mem_iff.mpr ?_
    rw [take_more h] at z
    rcases List.mem_append.mp z with z | z
    · exact List.mem_cons_of_mem _ (g.top q z)
    · rw [List.mem_singleton] at z; rw [z]; exact List.mem_cons_self
section
variable {P : Program} {w : World} {A : Around} {E : Value → Shared → Prop} {s : Shared}
end
section
variable {K : PySem.W.Frag} {X : Cx} {P0 : Pr} {O W : List Nat} {E : EK} {a e : Expr} {ma : EM} {pos : Pos}
end
end Y

set_option Elab.async false
set_option linter.all false
set_option maxRecDepth 100000
namespace Y
open PySem PySem.Spec PyProof.Rows L2
end Y

set_option Elab.async false
set_option linter.all false
set_option maxRecDepth 100000
namespace Y
open PySem PySem.Spec PyProof.Rows L2
section
variable {X : Cx}
end
end Y

set_option Elab.async false
set_option linter.all false
set_option maxRecDepth 100000
namespace Y
open PySem PySem.Spec PyProof.Rows L2
theorem intsOf_inv : ∀ {ds : List D} {ns : List Int}, intsOf ds = some ns → ds = ns.map D.int
  | [], ns, e => by cases e; rfl
  | d :: ds, ns, e => by
    cases d <;> simp [intsOf] at e
    rename_i i
    obtain ⟨m, e1, rfl⟩ := e
    rw [intsOf_inv e1]
    rfl
section
variable {X : Cx}
end
end Y

set_option Elab.async false
set_option linter.all false
set_option maxRecDepth 100000
namespace Y
open PySem PySem.Spec PyProof.Rows L2
section
variable {X : Cx} {e k : Expr} {te : TE} {p2 pos : Pos}
end
section
variable {X : Cx} {P0 : Pr} {O W : List Nat} {E : EK} {e k : Expr} {ma : EM} {mk : OM} {p2 pos : Pos}
end
variable {ρ : Y.Env}
end Y

set_option Elab.async false
set_option linter.all false
set_option maxRecDepth 100000
namespace Y
open PySem PySem.Spec PyProof.Rows L2
variable {K : PySem.W.Frag} {P0 : Pr} {O W U : List Nat} {E : EK} {ms : AM}
section
variable {X : Cx}
end
variable {ρ : Y.Env}
end Y

set_option Elab.async false
set_option linter.all false
set_option maxRecDepth 100000
namespace Y
open PySem PySem.Spec PyProof.Rows L2
section
variable {X : Cx} {P0 : Pr} {O W U : List Nat} {E : EK} {st2 : Stmt} {sts : List Stmt} {m mr : SM}
end
end Y

set_option Elab.async false
set_option linter.all false
set_option maxRecDepth 100000
namespace Y
open PySem PySem.Spec PyProof.Rows L2
section
variable {X : Cx} {i : Nat} {x : Str}
end
end Y

set_option Elab.async false
set_option linter.all false
set_option maxRecDepth 100000
namespace Y
open PySem PySem.Spec PyProof.Rows L2
section
variable {K : PySem.W.Frag} {O W : List Nat}
end
section
variable {X : Cx} {P0 : Pr} {O W : List Nat} {E : EK} {a b c tg : Expr} {ms : AM} {pos : Pos}
end
end Y

set_option Elab.async false
set_option linter.all false
set_option maxRecDepth 100000
namespace Y
open PySem PySem.Spec PyProof.Rows L2
section
variable {prog : Program} {w : World} {A : Around} {E : Value → Shared → Prop}
end
section
variable {X : Cx}
end
end Y

set_option Elab.async false
set_option linter.all false
set_option maxRecDepth 100000
namespace Y
open PySem PySem.Spec PyProof.Rows L2
section
variable {X : Cx} {P0 : Pr} {O W U : List Nat} {E : EK} {st : Stmt} {m n : SM} {pre tl : List Stmt}
end
section
variable {K : PySem.W.Frag} {P0 : Pr} {O W : List Nat} {ρ1 ρ2 : Y.Env} {σ1 σ2 : L2.St} {H1 H2 : Hp}
end
section
variable {X : Cx} {P0 : Pr} {O W U UU us : List Nat} {E : EK} {XE : XK} {e : Expr} {es : List Expr} {ms : AM} {pos pos2 p px : Pos} {k np i : Nat} {name x : Str} {n n0 : SM} {tl pre : List Stmt} {tr : D → Bool} {R : PySem.W.Frag → Pr → V → Hp → Prop}
def r0 (K : PySem.W.Frag) (A : Pr) (v : V) (H : Hp) : Prop := ∃ a ws b xs, v = .ref a ∧ A a ∧ ws.length < sizeLine ∧ H a = some (.lst ws) ∧ ws[0]? = some (V.ref b) ∧ A b ∧ b ≠ a ∧ H b = some (.lst xs)
end
end Y

set_option Elab.async false
set_option linter.all false
set_option maxRecDepth 100000
namespace Y
open PySem PySem.Spec PyProof.Rows L2
section
variable {K : PySem.W.Frag} {X : Cx} {P0 : Pr} {O W : List Nat} {E : EK} {e : Expr} {es : List Expr} {ms : AM} {pos : Pos}
theorem Out.newF {P : Pr} {H : Hp} {ds : List D} {vs : List V} {Q : VK} {o : Obj} (h : Out K P H (.ftu ds) Q) (hm : ∀ b, P b → isMut (H b)) (hd : o.dict = none) (r : Reps K H ds P vs) {p : Addr} (hp : H p = none) : Q (.ref p) (upd H p (.frz o (.tup vs))) :=
  h _ _ (Same.new hp) (Rep.ftu_of upd_same hd (r.mono ds hm (fun b u e _ => by rw [upd_ne (ne_of_none e hp)]; exact e) fun b z => .inl z)) fun z => by cases z
/-- tuple(x), told as known -/
def tupleFD : List D → R D
  | [.lst ds] => .ok (.ftu ds)
  | [.ftu ds] => .ok (.ftu ds)
  | _ => .stk
theorem cd_tupleF : CallR X (.type "tuple") (rDs X.K tupleFD) := by
  intro pins s σ H xs us Q I r ⟨P, ds, dz, hm, rs, e, out⟩
  unfold tupleFD at e
  split at e
  · cases e
    obtain ⟨v, rfl, r1⟩ := rs.get1
    obtain ⟨a, vs, rfl, h1, h2⟩ := r1.lst
    obtain ⟨u, rfl, rx⟩ := vals1 r
    cases rx
    obtain ⟨its, r', pl, hz⟩ := I.list (SqL.of h1)
    have hlen := r'.length
    refine call_tuple_list pl.isList (fun h' kp => ?_) (by simp only [List.size_toArray] <;> omega)
    have I1 : Inv X pins σ H { s with heap := h' } := I.kept (t' := s.toks) kp
    have I2 : Inv X pins σ (upd H h'.objs.size (.frz { cls := .type "tuple", data := .seq its.toArray } (.tup vs))) { s with heap := h'.push { cls := .type "tuple", data := .seq its.toArray } } :=
      I1.laid (t' := s.toks) (fun b o e => Heap.get?_push_of_some _ e) (Nat.le_refl _) (show ObjOk X.prog X.w _ _ _ (.frz _ (.tup vs)) from ⟨Heap.get?_push_size _ rfl, hz, its, r', IsTup.new _ _⟩)
    exact ⟨.ref h'.objs.size, _, I2, rfl, out.newF hm rfl h2 (I1.hok.fresh (Nat.le_refl _))⟩
  · cases e
    obtain ⟨v, rfl, r1⟩ := rs.get1
    obtain ⟨a, vs, o, rfl, h1, hd, h2⟩ := r1.ftu
    exact call_tuple_of pins s σ H _ us Q I r ⟨a, vs, rfl, .inr ⟨SqT.fz h1, out.flat (Rep.ftu_of h1 hd h2) rfl⟩⟩
  · cases e
end
section
variable {K : PySem.W.Frag} {X : Cx} {P0 : Pr} {O W : List Nat} {E : EK} {o e : Expr} {es : List Expr} {to : TE} {t : TA} {name : Str} {apos cpos : Pos} {id : String} {r : V → List V → Hp → VK → Prop}
def tBMF (to : TE) (r : V → List V → Hp → VK → Prop) (t : TA) : TE := fun σ H Q => to σ H fun x H1 => (∃ a ob vs, x = .ref a ∧ H1 a = some (.frz ob (.tup vs)) ∧ ob.dict = none) ∧ t σ H1 fun xs H2 => r x xs H2 Q
theorem pe_bmF (pa : PlainAttrs "tuple") (slot : Slot "tuple" name id) (hty : typeOf (.builtin id) = pure (.type "method_descriptor")) (hm : MtR X id r) (ho : PE X o to) (ha : PA X (e :: es) t)
    (hbase : attributeBase o name X.env (eval o X.env) = eval o X.env := by rfl)
    (hfew : ((backTo cpos (starEach (e :: es) X.env)).all (fun x => !x.1) && (backToKw cpos (keywordEach [] X.env)).all (fun x => x.1.isSome)
      && decide ((e :: es).length + ([] : List Keyword).length + (if ([] : List Keyword).isEmpty then 0 else 1) < 30)) = true := by rfl)
    (hline : (apos.endLine == cpos.line) = true := by rfl) (hs : starEach (e :: es) X.env = (false, eval e X.env) :: starEach es X.env := by rfl) (hplain : (backTo cpos (starEach es X.env)).any (·.1) = false := by rfl) :
    PE X (.Call (.Attribute o name apos) (e :: es) [] cpos) (tBMF to r t) := by
  refine ⟨fun pins s σ H Q I h => ?_⟩
  refine wpAny_Call_method_late hbase hfew hline rfl (thn (ho.run pins s σ H _ I h) fun v s1 ⟨x, H1, I1, r1, ty, q1⟩ => ?_)
  obtain ⟨a, ob, vs, rfl, hH, hd⟩ := ty
  obtain rfl : v = Value.ref a := r1
  obtain ⟨ho1, _, its, _, o2, ho2, hc2, _⟩ := I1.hok a _ hH
  have ho1 : s1.heap.get? a = some ob := ho1
  have eo : ob = o2 := by rw [ho1] at ho2; exact Option.some.inj ho2
  refine ⟨"tuple", id, pa, slot, hty, ⟨o2, ho2, hc2⟩, fun b hb => ?_, ?_⟩
  · cases hb
    exact ⟨ob, ho1, hd⟩
  · have hA := ha.run cpos pins s1 σ H1 _ I1 q1
    rw [hs] at hA ⊢
    refine Calls.callWith_builtin (by show (false || (backTo cpos (starEach es X.env)).any (·.1)) = false; rw [hplain] <;> rfl) (Calls.evalArgs_plain ?_)
    exact thn hA fun us s2 ⟨vs, H2, I2, r2, q2⟩ => hm pins s2 σ H2 (.ref a) vs _ us Q I2 (show L2.RelV (.ref a) (Value.ref a) from rfl) r2 q2
theorem mt_tup_indexI : MtR X "tuple.index" (fun x xs H Q => ∃ p, ∃ ns : List Int, ∃ k, x = .ref p ∧ xs = [.int k] ∧ SqT X.K H p (ns.map V.int) ∧ k ∈ ns ∧ Q (.int (ns.idxOf k : Nat)) H) := by
  intro pins s σ H x xs v us Q I rx rs h
  obtain ⟨p, ns, k, rfl, rfl, hq, hk, q⟩ := h
  cases rx
  obtain ⟨u, rfl, t, rfl⟩ := vals1 rs
  obtain ⟨its, r, pl, hz⟩ := I.tuple hq
  exact PySem.SeqAt.tuple_index_ints pl (by simpa using r.ints) hk ⟨.int (ns.idxOf k : Nat), H, I.tok _, ⟨_, rfl⟩, q⟩
def indexFD : D → D → R D
  | .ftu ds, .int k => match intsOf ds with
    | some ns => if k ∈ ns then .ok (.int (ns.idxOf k : Nat)) else .stk
    | none => .stk
  | _, _ => .stk
def cIndexF (a b : EM) : EM := fun ρ => do
  let (h1, ρ1) ← a ρ
  let x0 ← (h1.d ρ1).nox
  match x0 with
  | .ftu _ => do
    let (h2, ρ2) ← b ρ1
    let x ← (h1.d ρ2).nox
    let y ← (h2.d ρ2).nox
    let z ← (indexFD x y).nox
    pure (.fr z, ρ2)
  | _ => .stk
theorem ce_indexF {a b : Expr} {ma mb : EM} (ha : CEx X P0 O W E a ma) (hb : CEx X P0 O W E b mb) (hbase : attributeBase a "index" X.env (eval a X.env) = eval a X.env := by rfl)
    (hfew : ((backTo cpos (starEach [b] X.env)).all (fun x => !x.1) && (backToKw cpos (keywordEach [] X.env)).all (fun x => x.1.isSome)
      && decide ([b].length + ([] : List Keyword).length + (if ([] : List Keyword).isEmpty then 0 else 1) < 30)) = true := by rfl)
    (hline : (apos.endLine == cpos.line) = true := by rfl) (hs : starEach [b] X.env = (false, eval b X.env) :: starEach [] X.env := by rfl) (hplain : (backTo cpos (starEach [] X.env)).any (·.1) = false := by rfl) :
    CEx X P0 O W E (.Call (.Attribute a "index" apos) [b] [] cpos) (cIndexF ma mb) :=
  PE.imp (pe_bmF PySem.F.plainAttrs_tuple PySem.F.slot_tuple_index PySem.F.type_tuple_index mt_tup_indexI ha (pa_cons hb pa_nil hs) hbase hfew hline hs hplain) fun σ H Q ⟨ρ, S, h⟩ => by
    refine ⟨ρ, S, h.of_bind.mono fun ⟨h1, ρ1⟩ q x H1 S1 k1 r1 => ?_⟩
    obtain ⟨x0, e0, q⟩ := q.of_nox
    have rx0 := r1.d S1 e0
    cases x0 <;> first | exact q.elim | skip
    rename_i ds0
    obtain ⟨p, vs0, ob, rfl, t1, t2, t3⟩ := rx0.ftu
    refine ⟨⟨p, ob, vs0, rfl, t1, t2⟩, ρ1, S1, ((show Res E W σ H (mb ρ1 >>= _) _ from q).keep k1).of_bind.mono fun ⟨h2, ρ2⟩ q2 y H2 S2 k2 r2 => ?_⟩
    obtain ⟨dx, e1, q3⟩ := q2.of_nox
    obtain ⟨dy, e2, q4⟩ := q3.of_nox
    obtain ⟨dz, e3, q5⟩ := q4.of_nox
    have rx := (r1.keep S1 k2).d S2 e1
    have ry := r2.d S2 e2
    have out := out_of (K := X.K) S2 (k1.trans k2) q5
    unfold indexFD at e3
    split at e3
    · split at e3
      · rename_i ns hn
        split at e3
        · rename_i hk; cases e3
          obtain ⟨p', vs, ob', e4, u1, u2, u3⟩ := rx.ftu
          cases e4
          obtain rfl := ry.int
          rw [ints_rep hn u3] at u1
          exact ⟨p, ns, _, rfl, rfl, SqT.fz u1, hk, out.int⟩
        · cases e3
      · cases e3
    · cases e3
end
section
variable {X : Cx}
end
variable {ρ : Y.Env}
@[simp] theorem e_indexF {a b : EM} : cIndexF a b ρ = (a ρ >>= fun p => (p.1.d p.2).nox >>= fun x0 => match x0 with | .ftu _ => (b p.2 >>= fun q => (p.1.d q.2).nox >>= fun x => (q.1.d q.2).nox >>= fun y => (indexFD x y).nox >>= fun z => R.ok (.fr z, q.2)) | _ => .stk) := by
  unfold cIndexF; congr
@[simp] theorem d_tupleF {ds : List D} : tupleFD [.lst ds] = .ok (.ftu ds) := id rfl
@[simp] theorem d_tupleF2 {ds : List D} : tupleFD [.ftu ds] = .ok (.ftu ds) := id rfl
@[simp] theorem d_indexF {ns : List Int} {k : Int} (h : k ∈ ns) (hi : ∀ l : List Int, intsOf (l.map D.int) = some l) : indexFD (.ftu (ns.map D.int)) (.int k) = .ok (.int (ns.idxOf k : Nat)) := by
  show (match intsOf (ns.map D.int) with | some ns => _ | none => _) = _
  rw [hi]
  exact if_pos h
@[simp] theorem d_lenF {x : List D} : lenD [.ftu x] = .ok (.int x.length) := id rfl
@[simp] theorem d_itF {x : List D} : itD (.ftu x) = .ok x := id rfl
@[simp] theorem d_ixF {x : List D} {i : Int} : ixD (.ftu x) (.int i) = match atI x i with | some d => .ok d | none => .stk := id rfl
@[simp] theorem isFt_F {ds : List D} : isFt (.ftu ds) = true := id rfl
@[simp] theorem isTup_F {ds : List D} : isTup (.ftu ds) = true := id rfl
@[simp] theorem nlF {ds : List D} : D.nl (.ftu ds) = nls ds := by simp [D.nl]
end Y

set_option Elab.async false
set_option linter.all false
set_option maxRecDepth 100000
set_option maxHeartbeats 4000000
namespace Y
open PySem PySem.Spec PyProof.Rows L2
section
variable {X : Cx}
end
end Y

set_option Elab.async false
set_option linter.all false
set_option maxRecDepth 100000
set_option maxHeartbeats 4000000
namespace Y
open PySem PySem.Spec PyProof.Rows L2
section
variable {prog : Program} {w : World} {A : Around} {E : Value → Shared → Prop} {s : Shared} {R : Result → Shared → Prop} {e it S T : Addr} {fp : List Addr} {n i : Nat} {P : Nat → Value → Prop} {St : Nat → Heap → Prop} {f : Bool} {oT : Obj} {old : Value}
/-- i pairs are out -/
def ESt (e it S : Addr) (St : Nat → Heap → Prop) (i : Nat) (h : Heap) : Prop := St i h ∧
  ((∃ old, IsEnum h e it ((i : Nat) : Int) old) ∨ ∃ old T f oT, IsEnumHeld h e it ((i : Nat) : Int) old T f ∧ h.get? T = some oT ∧ T ≠ e ∧ T ≠ it ∧ T ≠ S)
theorem ESt.ty {h : Heap} (x : ESt e it S St i h) : ∃ o, h.get? e = some o ∧ o.cls = .type "enumerate" := by
  rcases x.2 with ⟨_, y⟩ | ⟨_, _, _, _, y, _⟩
  · exact ⟨_, y, rfl⟩
  · exact ⟨_, y, rfl⟩
theorem ESt.stay (D : Draws prog w A it fp n P St) {h h' : Heap} (x : ESt e it S St i h) (nz : S ≠ e) (n1 : S ∉ fp) (k : ∀ b o, b ≠ S → h.get? b = some o → h'.get? b = some o) : ESt e it S St i h' := by
  obtain ⟨a, d⟩ := x
  refine ⟨D.frame _ _ _ a fun q hq o y => k q o (fun e2 => n1 (e2 ▸ hq)) y, ?_⟩
  rcases d with ⟨old, y⟩ | ⟨old, T, f, oT, y, y2, d3, d4, d5⟩
  · exact .inl ⟨old, k _ _ nz.symm y⟩
  · exact .inr ⟨old, T, f, oT, k _ _ nz.symm y, k _ _ d5 y2, d3, d4, d5⟩
end
end Y

set_option Elab.async false
set_option linter.all false
set_option maxRecDepth 100000
set_option maxHeartbeats 4000000
namespace Y
open PySem PySem.Spec PyProof.Rows L2
section
variable {X : Cx} {pins : List (Addr × Obj)} {σ : L2.St} {H : Hp} {s : Shared}
end
section
variable {X : Cx} {P0 : Pr} {O W : List Nat} {E : EK} {a b : Expr} {ms : AM} {pos : Pos}
end
variable {ρ : Y.Env}
end Y

set_option Elab.async false
set_option linter.all false
set_option maxRecDepth 100000
namespace Y
open PySem PySem.Spec PyProof.Rows L2
section
variable {X : Cx} {P0 : Pr} {O W : List Nat} {E : EK} {k v : Int} {c1 c2} {p1 p2 pos : Pos}
end
end Y

set_option Elab.async false
set_option linter.all false
set_option maxRecDepth 100000
namespace Y
open PySem PySem.Spec PyProof.Rows L2
section
variable {X : Cx} {P0 : Pr} {O W : List Nat} {E : EK} {a e : Expr} {ma mk : EM} {pos : Pos}
end
variable {ρ : Y.Env}
end Y

set_option Elab.async false
set_option linter.all false
set_option maxRecDepth 100000
namespace Y
open PySem PySem.Spec PyProof.Rows L2
section
variable {K : PySem.W.Frag} {P0 : Pr} {O W : List Nat} {ρ : Env} {σ : St} {H : Hp}
end
section
variable {X : Cx} {P0 : Pr} {O W U : List Nat} {E : EK} {st2 st3 : Stmt} {sts : List Stmt} {es : List Expr} {m0 : AM} {m2 m3 mr : SM}
end
end Y

set_option Elab.async false
set_option linter.all false
set_option maxRecDepth 100000
namespace Y
open PySem PySem.Spec PyProof.Rows L2
section
variable {X : Cx} {P0 : Pr} {O W U : List Nat} {E : EK} {e e2 : Expr} {ms : AM} {pos p2 : Pos} {k i : Nat}
end
end Y

set_option Elab.async false
set_option linter.all false
set_option maxRecDepth 100000
namespace Y
open PySem PySem.Spec PyProof.Rows L2
section
variable {X : Cx} {P0 : Pr} {O W U : List Nat} {E : EK} {i : Nat} {x : Str}
end
end Y

set_option Elab.async false
set_option linter.all false
set_option maxRecDepth 100000
namespace Y
open PySem PySem.Spec PyProof.Rows L2
section
variable {K : PySem.W.Frag} {X : Cx} {P0 : Pr} {O W U : List Nat} {E : EK} {a b e : Expr} {ma mb : EM} {pos : Pos}
end
variable {ρ : Y.Env}
end Y

set_option Elab.async false
set_option linter.all false
set_option maxRecDepth 100000
namespace Y
open PySem PySem.Spec PyProof.Rows L2
section
variable {X : Cx} {pins : List (Addr × Obj)} {σ : L2.St} {H : Hp} {s : Shared}
end
/-- what a def with a hidden slot promises; the slot's datum is the last one of g -/
def spT (K : PySem.W.Frag) (mg : Str → Option Value) (np : Nat) (O : List Nat) (g : Fn) : Sp := fun vs H Q E => vs.length = np ∧ ∃ v, spD K mg (np + 1) O g (vs ++ [v]) H Q E
structure GloT (P : Program) (w : World) (K : PySem.W.Frag) (mg : Str → Option Value) (base : Heap) (name : Str) (k np : Nat) (O : List Nat) (g : Fn) : Prop where
  ex : ∃ f fd ps, mg name = some (.ref f) ∧ PySem.W.keepIn K (.ref f) = true ∧ Binds K fd ps [] ∧ ps.length = np ∧ FnOk P w K mg base (L2N.CX P w) k f fd ps (spT K mg np O g)
section
variable {K : PySem.W.Frag} {mg : Str → Option Value} {P0 : Pr} {O Oc W U : List Nat} {ρ : Env} {σ : St} {H H' : Hp} {d : D} {v : V} {np n : Nat}
end
theorem GloT.mono {P : Program} {w : World} {K : PySem.W.Frag} {mg : Str → Option Value} {base : Heap} {name : Str} {k np : Nat} {O : List Nat} {g : Fn} {k' : Nat} (G : GloT P w K mg base name k np O g) (h : k ≤ k' := by decide) : GloT P w K mg base name k' np O g :=
  let ⟨f, fd, ps, h1, h2, h3, h4, F⟩ := G.ex
  ⟨f, fd, ps, h1, h2, h3, h4, F.mono h⟩
section
variable {X : Cx} {P0 : Pr} {O Oc W U : List Nat} {E : EK} {XE : XK} {e : Expr} {es : List Expr} {ms : AM} {pos : Pos} {k np : Nat} {name : Str} {pr : List (Nat × Nat)} {t : Nat}
end
end Y

set_option Elab.async false
set_option linter.all false
set_option maxRecDepth 100000
set_option maxHeartbeats 2000000
namespace Y
open PySem PySem.Spec PyProof.Rows L2
section
variable {X : Cx} {pins : List (Addr × Obj)} {σ : L2.St} {H : Hp} {s : Shared}
end
section
variable {prog : Program} {w : World} {A : Around} {s : Shared} {x q : Str} {params : Arguments} {body : Expr} {scope : Scope} {pm ctv : Value} {c' f : Addr} {v : Value} {Q : Value → Shared → Prop}
end
end Y

set_option Elab.async false
set_option linter.all false
set_option maxRecDepth 100000
set_option maxHeartbeats 2000000
namespace Y
open PySem PySem.Spec PyProof.Rows L2
section
variable {α : Type} {g : α → Int}
end
section
variable {X : Cx} {pins : List (Addr × Obj)} {σ : L2.St} {H : Hp} {s : Shared} {x q c : Str} {params : Arguments} {body : Expr} {scope : Scope} {pm ctv : Value} {c' f a : Addr} {xs : List Str} {Q : VK} {k : Nat}
end
end Y

set_option Elab.async false
set_option linter.all false
set_option maxRecDepth 100000
set_option maxHeartbeats 2000000
namespace Y
open PySem PySem.Spec PyProof.Rows L2
section
variable {K : PySem.W.Frag} {P0 : Pr} {O W : List Nat} {ρ : Env} {σ : L2.St} {H H2 : Hp} {t : Nat} {P : Addr} {q : Str}
end
section
variable {X : Cx} {P0 : Pr} {O W : List Nat} {E : EK} {a : Expr} {ma : EM} {pos : Pos} {k : Nat}
end
variable {ρ : Y.Env}
end Y

set_option Elab.async false
set_option linter.all false
set_option maxRecDepth 100000
namespace Y
open PySem PySem.Spec PyProof.Rows L2
section
variable {K : PySem.W.Frag} {mg : Str → Option Value} {O Oc W U : List Nat} {np n : Nat}
end
end Y

set_option Elab.async false
set_option linter.all false
set_option maxRecDepth 100000
namespace Y
open PySem PySem.Spec PyProof.Rows L2
section
variable {X : Cx} {P0 : Pr} {O Oc W : List Nat} {e : Expr} {es : List Expr} {ms : AM} {pos : Pos} {k k0 np : Nat} {name : Str} {pr : List (Nat × Nat)} {t : Nat}
end
end Y

set_option Elab.async false
set_option linter.all false
set_option maxRecDepth 100000
namespace Y
open PySem PySem.Spec PyProof.Rows L2
end Y

set_option Elab.async false
set_option linter.all false
set_option maxRecDepth 100000
set_option maxHeartbeats 4000000
namespace Y
open PySem PySem.Spec PyProof.Rows L2
section
variable {prog : Program} {w : World} {A : Around} {s : Shared} {x : Str} {Q : Value → Shared → Prop}
end

section
variable {X : Cx} {P0 : Pr} {O W : List Nat} {E : EK} {a : Expr} {ma : EM} {pos : Pos} {k : Nat}
end
end Y

set_option Elab.async false
set_option linter.all false
set_option maxRecDepth 100000
set_option maxHeartbeats 2000000
namespace Y
open PySem PySem.Spec PyProof.Rows L2
section
variable {X : Cx} {P0 : Pr} {O W : List Nat} {E : EK} {a : Expr} {ma : EM} {pos : Pos} {k : Nat}
end
variable {ρ : Y.Env}
end Y

set_option Elab.async false
set_option linter.all false
set_option maxRecDepth 100000
set_option maxHeartbeats 2000000
namespace Y
open PySem PySem.Spec PyProof.Rows L2
section
variable {X : Cx} {P0 : Pr} {O W : List Nat} {E : EK} {a : Expr} {ma : EM} {pos : Pos} {k : Nat}
end
variable {ρ : Y.Env}
end Y

set_option Elab.async false
set_option linter.all false
set_option maxRecDepth 100000
set_option maxHeartbeats 4000000
namespace Y
open PySem PySem.Spec PyProof.Rows L2
section
variable {prog : Program} {w : World} {A : Around} {E : Value → Shared → Prop} {s : Shared} {e it T : Addr} {fp : List Addr} {n i : Nat} {P : Nat → Value → Prop} {St : Nat → Heap → Prop} {f : Bool} {old : Value}
end
section
variable {X : Cx} {P0 : Pr} {O W : List Nat} {E : EK} {a e : Expr} {ms : AM} {pos : Pos}
end
end Y

set_option Elab.async false
set_option linter.all false
set_option maxRecDepth 100000
set_option maxHeartbeats 4000000
namespace Y
open PySem PySem.Spec PyProof.Rows L2
section
variable {X : Cx}
end
end Y

set_option Elab.async false
set_option linter.all false
set_option maxRecDepth 100000
set_option maxHeartbeats 4000000
namespace Y
open PySem PySem.Spec PyProof.Rows L2
def addGD : D → D → R D
  | .ftu xs, .ftu ys => if szOk (xs.length + ys.length) = true then (if xs.isEmpty = true then .ok (.ftu ys) else if ys.isEmpty = true then .ok (.ftu xs) else .ok (.ftu (xs ++ ys))) else .stk
  | _, _ => .stk
section
variable {X : Cx}
theorem op_catG {pins : List (Addr × Obj)} {s : Shared} {σ : L2.St} {H : Hp} {v u : Value} {Q : VK} {a b : Addr} {xs ys : List V} (I : Inv X pins σ H s) (rx : L2.RelV (.ref a) v) (ry : L2.RelV (.ref b) u) (ha : SqT X.K H a xs) (hb : SqT X.K H b ys) (hz : xs.length + ys.length ≤ sizeLine)
    (q0 : xs = [] → Q (.ref b) H) (q1 : xs ≠ [] → ys = [] → Q (.ref a) H) (q2 : xs ≠ [] → ys ≠ [] → ∀ p o, H p = none → o.dict = none → Q (.ref p) (upd H p (.frz o (.tup (xs ++ ys))))) : wpAny (model X.prog X.w) X.A (binaryOp .Add v u) (EP X pins σ Q) X.xe s := by
  cases rx
  cases ry
  obtain ⟨its, r1, p1, _⟩ := I.tuple ha
  obtain ⟨its2, r2, p2, _⟩ := I.tuple hb
  by_cases hx : xs = []
  · subst hx
    cases r1
    exact cat_tup0 p1 p2 ⟨.ref b, H, I, rfl, q0 rfl⟩
  · refine HT.cat_tup p1 p2 (fun z => hx (r1.nil_iff.mp z)) (fun z => ⟨.ref a, H, I, rfl, q1 hx (r2.nil_iff.mp z)⟩) (fun z => ?_) (by rw [← r1.length, ← r2.length]; exact hz)
    refine ⟨.ref s.heap.objs.size, _, I.laid (t' := s.toks) (o := .frz _ (.tup (xs ++ ys))) (fun b ob q => Heap.get?_push_of_some _ q) (Nat.le_refl _) ⟨Heap.get?_push_size _ rfl, by rw [List.length_append]; exact hz, _, r1.append r2, IsTup.new _ _⟩, rfl, q2 hx (fun w => z (r2.nil_iff.mpr w)) _ _ (I.hok.fresh (Nat.le_refl _)) rfl⟩
theorem od_addG : OpR X (binaryOp .Add) (rD X.K addGD) := by
  intro pins s σ H x y v u Q I rx ry ⟨P, dx, dy, dz, hm, r1, r2, e, out⟩
  unfold addGD at e
  split at e
  · obtain ⟨a, vs, o, rfl, t1, d1, h1⟩ := r1.ftu
    obtain ⟨b, ws, o2, rfl, t2, d2, h2⟩ := r2.ftu
    split at e
    · rename_i xs ys c
      have l1 := h1.length
      have l2 := h2.length
      refine op_catG I rx ry (SqT.fz t1) (SqT.fz t2) (by rw [l1, l2]; exact of_decide_eq_true c) (fun z => ?_) (fun nz z => ?_) fun n1 n2 p oo hp hd => ?_
      · subst z
        have z := List.length_eq_zero_iff.mp (show _ = 0 from l1.symm)
        subst z
        cases e
        exact out.flat (Rep.ftu_of t2 d2 h2) rfl
      · subst z
        have z := List.length_eq_zero_iff.mp (show _ = 0 from l2.symm)
        subst z
        have nx : xs.isEmpty = false := by
          cases xs with
          | nil => exact absurd (List.length_eq_zero_iff.mp l1) nz
          | cons _ _ => rfl
        rw [nx] at e
        cases e
        exact out.flat (Rep.ftu_of t1 d1 h1) rfl
      · have nx : xs.isEmpty = false := by
          cases xs with
          | nil => exact absurd (List.length_eq_zero_iff.mp l1) n1
          | cons _ _ => rfl
        have ny : ys.isEmpty = false := by
          cases ys with
          | nil => exact absurd (List.length_eq_zero_iff.mp l2) n2
          | cons _ _ => rfl
        rw [nx, ny] at e
        cases e
        exact out.newF hm hd (h1.append h2) hp
    · cases e
  · cases e
end
@[simp] theorem d_addG {xs ys : List D} : addGD (.ftu xs) (.ftu ys) = if szOk (xs.length + ys.length) = true then (if xs.isEmpty = true then .ok (.ftu ys) else if ys.isEmpty = true then .ok (.ftu xs) else .ok (.ftu (xs ++ ys))) else .stk := id rfl
end Y

set_option Elab.async false
set_option linter.all false
set_option maxRecDepth 100000
set_option maxHeartbeats 4000000
namespace Y
open PySem PySem.Spec PyProof.Rows L2
theorem entry_s_sub : entryFor table "set.__sub__" = some Builtin.«frozenset.__sub__» :=
  entryFor_alias (id' := "frozenset.__sub__") (by kernel_rfl) rfl (by decide +kernel) (by kernel_rfl)
section
variable {P : Program} {w : World} {A : Around} {E : Value → Shared → Prop} {s : Shared}
theorem anySet_at {v : Value} {Q : Bool → Shared → Prop} (hT : s.TypeIs v "set") (h : Q true s) : wpAny (model P w) A (Builtin.Frozenset.isAnySet v) Q E s := by
  unfold Builtin.Frozenset.isAnySet orM
  exact wpAny_bind (wpAny_isInstance (b := true) hT sub_set_self (wpAny_pure h))
theorem baseOf_at {a : Addr} {Q : Value → Shared → Prop} (hT : s.TypeIs (.ref a) "set") (h : Q (.type "set") s) : wpAny (model P w) A (Builtin.Frozenset.baseOf a) Q E s := by
  unfold Builtin.Frozenset.baseOf
  exact wpAny_bind (wpAny_isInstance (b := true) hT sub_set_self (wpAny_pure h))
theorem entries_at {a : Addr} {o : Obj} {es : Array (Int × Value)} {ep : Nat} {t : SetTable} {Q : Array (Int × Value) → Shared → Prop}
    (ho : s.heap.get? a = some o) (hd : o.data = .set es ep t) (hf : t.fits es.size = true) (h : Q es s) : wpAny (model P w) A (setEntries a) Q E s := by
  unfold setEntries
  exact wpAny_bind (wpAny_setState_of ho hd hf (wpAny_pure h))
theorem sizeOf_at {a : Addr} {o : Obj} {es : Array (Int × Value)} {ep : Nat} {t : SetTable} {Q : Nat → Shared → Prop}
    (ho : s.heap.get? a = some o) (hd : o.data = .set es ep t) (hf : t.fits es.size = true) (h : Q es.size s) : wpAny (model P w) A (Builtin.Frozenset.sizeOf a) Q E s := by
  unfold Builtin.Frozenset.sizeOf
  exact wpAny_bind (entries_at ho hd hf (wpAny_pure h))
theorem unchanged_at {id : String} {a : Addr} {o : Obj} {es : Array (Int × Value)} {ep : Nat} {t : SetTable} {Q : Unit → Shared → Prop}
    (ho : s.heap.get? a = some o) (hd : o.data = .set es ep t) (hf : t.fits es.size = true) (h : Q () s) : wpAny (model P w) A (Builtin.Frozenset.unchanged id a ep) Q E s := by
  unfold Builtin.Frozenset.unchanged
  refine wpAny_bind (wpAny_setEpoch_of ho hd hf ?_)
  refine wp_if_neg (by simp) ?_
  exact wpAny_pure h
theorem newSet_at {Q : Value → Shared → Prop} (h : SetR w (s.heap.push { cls := .type "set", dict := none, data := .set #[] 0 (.fresh 0 0 (!w.params.followText "set-order")) }) s.heap.objs.size (fun _ => false) 0 →
      Q (.ref s.heap.objs.size) { s with heap := s.heap.push { cls := .type "set", dict := none, data := .set #[] 0 (.fresh 0 0 (!w.params.followText "set-order")) } }) :
    wpAny (model P w) A (newSet (.type "set")) Q E s := by
  unfold newSet
  refine wpAny_bind (wpAny_byText ?_)
  exact wpAny_newObj_type (h (setR_fresh w))
/-- the walk of a set of whole numbers whose state is told: an order of its members -/
theorem setWalk_at {a : Addr} {o : Obj} {es : Array (Int × Value)} {ep : Nat} {t : SetTable} {Q : Array (Int × Value) → Shared → Prop}
    (ho : s.heap.get? a = some o) (hd : o.data = .set es ep t) (hf : t.fits es.size = true) (hl : w.params.followText "set-order" = true ∨ t.led = true)
    (hp : w.params.followText "set-order" = true ∨ t.plain = true ∨ es.size ≤ 1) (h : ∀ out, out.toList.Perm es.toList → Q out s) : wpAny (model P w) A (setWalk a) Q E s := by
  unfold setWalk
  refine wpAny_bind (wpAny_setState_of ho hd hf ?_)
  dsimp only
  refine wpAny_bind (wpAny_byText ?_)
  by_cases hb : w.params.followText "set-order" = true
  · refine wp_if_pos hb ?_
    exact wpAny_bind (wpAny_askSetting (wpAny_pure (h _ (pick_perm _ _))))
  · refine wp_if_neg hb ?_
    try refine wpAny_bind (wpAny_pure ?_)
    have hl : t.led = true := hl.resolve_left hb
    have hp := hp.resolve_left hb
    refine wp_if_neg ?_ ?_
    · show ¬ ((!t.plain && decide (es.size > 1)) = true)
      rcases hp with z | z
      · simp [z]
      · simp [Nat.not_lt.mpr z]
    · try refine wpAny_bind (wpAny_pure ?_)
      refine wpAny_bind (wpAny_of_eq (a := ()) ?_ ?_)
      · show (if (!t.led && decide (es.size > 1)) = true then unsupported "set:maker-not-led" else pure ()) = pure ()
        rw [hl] <;> rfl
      · exact wpAny_pure (h es (List.Perm.refl _))

def IntsE (l : List (Int × Value)) : Prop := ∀ e ∈ l, GoodE e
theorem IntsE.perm {l l' : List (Int × Value)} (h : IntsE l) (p : l'.Perm l) : IntsE l' := fun e he => h e (p.mem_iff.mp he)
theorem quiet_at {Q : Bool → Shared → Prop} : ∀ {l : List Addr}, (∀ a ∈ l, ∃ o es ep t, s.heap.get? a = some o ∧ o.data = .set es ep t ∧ t.fits es.size = true ∧ IntsE es.toList) → Q true s →
    wpAny (model P w) A (setsQuiet l) Q E s := by
  intro l hl h
  unfold setsQuiet
  refine wpAny_bind (wpAny_forIn_list _ (fun rest b s' => (∀ a ∈ rest, a ∈ l) ∧ b = ⟨none, ()⟩ ∧ s' = s) _ ?_ ?_ _ _ ⟨fun a z => z, rfl, rfl⟩)
  · intro a rest b s' ⟨hm, hb, hs⟩
    subst hb hs
    obtain ⟨o, es, ep, t, ho, hd, hf, hg⟩ := hl a (hm a List.mem_cons_self)
    refine wpAny_bind (entries_at ho hd hf ?_)
    refine wpAny_bind (wpAny_forIn_array' _ (fun rest b s'' => IntsE rest ∧ b = ⟨none, ()⟩ ∧ s'' = s') _ ?_ ?_ _ _ ⟨hg, rfl, rfl⟩)
    · intro x rest2 b2 s2 ⟨h1, h2, h3⟩
      subst h2 h3
      obtain ⟨k, tk, e1, _⟩ := h1 x List.mem_cons_self
      obtain ⟨xh, xv⟩ := x
      cases e1
      dsimp only
      try refine wpAny_bind (wpAny_pure ?_)
      exact wpAny_pure ⟨fun e he => h1 e (List.mem_cons_of_mem _ he), rfl, rfl⟩
    · intro b2 s2 ⟨_, h2, h3⟩
      subst h2 h3
      dsimp only
      exact wpAny_pure ⟨fun a z => hm a (List.mem_cons_of_mem _ z), rfl, rfl⟩
  · intro b s' ⟨_, hb, hs⟩
    subst hb hs
    dsimp only
    exact wpAny_pure h
theorem walkUnseen_at {a b r : Addr} {S : Int → Bool} {n : Nat} {o o2 : Obj} {es es2 : Array (Int × Value)} {ep ep2 : Nat} {t t2 : SetTable} {Q : Array (Int × Value) → Shared → Prop}
    (ho : s.heap.get? a = some o) (hd : o.data = .set es ep t) (hf : t.fits es.size = true) (hg : IntsE es.toList) (hl : w.params.followText "set-order" = true ∨ t.led = true)
    (ho2 : s.heap.get? b = some o2) (hd2 : o2.data = .set es2 ep2 t2) (hf2 : t2.fits es2.size = true) (hg2 : IntsE es2.toList) (R : SetR w s.heap r S n)
    (h : ∀ out h', out.toList.Perm es.toList → Heap.SameBut r s.heap h' → SetR w h' r S n → Q out { s with heap := h' }) : wpAny (model P w) A (setWalkUnseen a [b, r] (some r)) Q E s := by
  unfold setWalkUnseen
  refine wpAny_bind (wpAny_setState_of ho hd hf ?_)
  dsimp only
  refine wpAny_bind (wpAny_byText ?_)
  by_cases hc : (w.params.followText "set-order" || (t.led && t.plain) || decide (es.size ≤ 1)) = true
  · refine wp_if_pos hc ?_
    refine setWalk_at ho hd hf hl ?_ fun out p => h out s.heap p (Heap.SameBut.refl _ _) R
    simp only [Bool.or_eq_true, Bool.and_eq_true, decide_eq_true_eq] at hc
    rcases hc with (z | z) | z
    · exact .inl z
    · exact .inr (.inl z.2)
    · exact .inr (.inr z)
  · refine wp_if_neg hc ?_
    obtain ⟨o3, es3, ep3, t3, ho3, hex3, hd3, hg3, hnd3, hm3, hb3, hf3, hn3, hr3, hl3⟩ := id R
    have hb : ¬ w.params.followText "set-order" = true := fun z => hc (by rw [z]; rfl)
    have hl : t.led = true := hl.resolve_left hb
    have hl3 : t3.led = true := hl3.resolve_left hb
    refine wpAny_bind (quiet_at ?_ ?_)
    · intro c hc
      simp only [List.mem_cons, List.not_mem_nil, or_false] at hc
      rcases hc with rfl | rfl | rfl
      · exact ⟨o, es, ep, t, ho, hd, hf, hg⟩
      · exact ⟨o2, es2, ep2, t2, ho2, hd2, hf2, hg2⟩
      · exact ⟨o3, es3, ep3, t3, ho3, hd3, hf3, hg3⟩
    · try dsimp only
      refine wp_if_neg (by simp) ?_
      try refine wpAny_bind (wpAny_pure ?_)
      refine wpAny_bind (wpAny_rule ?_)
      try dsimp only
      refine wpAny_bind (wpAny_setState_of ho3 hd3 hf3 ?_)
      dsimp only
      by_cases hp : (t3.led && !t.led || t3.plain && !t.plain) = true
      · refine wp_if_pos hp ?_
        refine wpAny_bind (wpAny_storeSet_of ho3 hd3 ?_ (fits_of_scanBound hb3))
        refine wpAny_pure (h es _ (List.Perm.refl _) (Heap.SameBut.update _ _ _) ?_)
        have q := store_at (es' := es3) (t' := { t3 with led := t3.led && t.led, plain := t3.plain && t.plain }) ho3 hd3
        exact ⟨_, es3, _, _, q, hex3, rfl, hg3, hnd3, hm3, hb3, hf3, hn3, hr3, .inr (by show (t3.led && t.led) = true; rw [hl, hl3]; rfl)⟩
      · refine wp_if_neg hp ?_
        try refine wpAny_bind (wpAny_pure ?_)
        exact wpAny_pure (h es s.heap (List.Perm.refl _) (Heap.SameBut.refl _ _) R)

def MI (w : World) (s : Shared) (p : Addr) (h1 : Heap) (S2 : Int → Bool) (out rest : List (Int × Value)) (s' : Shared) : Prop := ∃ h' pre c, s' = { s with heap := h' } ∧ out = pre ++ rest ∧ (∀ c u, c ≠ p → h1.get? c = some u → h'.get? c = some u) ∧
    SetR w h' p (fun j => decide (j ∈ pre.map L2.keyOf) && !S2 j) c ∧ c ≤ pre.length
theorem minus_at {nm : String} {a b : Addr} {S S2 : Int → Bool} {n m : Nat} {Q : Value → Shared → Prop} (R : SetR w s.heap a S n) (R2 : SetR w s.heap b S2 m) (hz : n / 4 ≤ m)
    (hQ : ∀ h' p c, p = s.heap.objs.size → (∀ b o, s.heap.get? b = some o → h'.get? b = some o) → c ≤ n → SetR w h' p (fun j => S j && !S2 j) c → Q (.ref p) { s with heap := h' }) :
    wpAny (model P w) A (Builtin.Frozenset.difference nm a (.ref b)) Q E s := by
  obtain ⟨o, es, ep, t, ho, hex, hd, hg, hnd, hm, hb, hf, hn, hr, hl⟩ := id R
  obtain ⟨o2, es2, ep2, t2, ho2, hex2, hd2, hg2, hnd2, hm2, hb2, hf2, hn2, hr2, hl2⟩ := id R2
  have tA : s.TypeIs (.ref a) "set" := ⟨o, ho, hex.1⟩
  have tB : s.TypeIs (.ref b) "set" := ⟨o2, ho2, hex2.1⟩
  unfold Builtin.Frozenset.difference
  refine wpAny_bind (anySet_at tB ?_)
  simp only [Bool.not_true, Bool.false_eq_true, if_false]
  unfold Builtin.Frozenset.addrOf
  refine wpAny_bind (wpAny_pure ?_)
  refine wp_if_neg (by simp) ?_
  refine wp_if_pos trivial ?_
  refine wpAny_bind (sizeOf_at ho2 hd2 hf2 ?_)
  refine wpAny_bind (sizeOf_at ho hd hf ?_)
  refine wp_if_neg (by rw [hn, hn2]; omega) ?_
  refine wpAny_bind (baseOf_at tA ?_)
  refine wpAny_bind (newSet_at fun Rp => ?_)
  dsimp only
  refine wpAny_bind (wpAny_pure ?_)
  generalize hp : s.heap.objs.size = p at Rp ⊢
  generalize h1e : s.heap.push { cls := .type "set", dict := none, data := .set #[] 0 (.fresh 0 0 (!w.params.followText "set-order")) } = h1 at Rp ⊢
  have k1 : ∀ c u, s.heap.get? c = some u → h1.get? c = some u := fun c u e => by rw [← h1e]; exact Heap.get?_push_of_some _ e
  have hap : a ≠ p := by rw [← hp]; exact Nat.ne_of_lt (Heap.lt_size ho)
  have hbp : b ≠ p := by rw [← hp]; exact Nat.ne_of_lt (Heap.lt_size ho2)
  refine wpAny_bind (wpAny_setEpoch_of (k1 _ _ ho) hd hf ?_)
  refine wpAny_bind (wpAny_holding ?_)
  refine wpAny_bind ?_
  simp only [if_true]
  refine walkUnseen_at (s := { s with heap := h1 }) (k1 _ _ ho) hd hf hg hl (k1 _ _ ho2) hd2 hf2 hg2 Rp fun out h2 pm sb Rp2 => ?_
  have hout : out.size = es.size := by rw [← Array.length_toList, pm.length_eq, Array.length_toList]
  refine wpAny_bind (wpAny_mono (wpAny_forIn_array' _ (fun rest _ s' => MI w s p h1 S2 out.toList rest s') (fun _ s' => MI w s p h1 S2 out.toList [] s') ?_ ?_ _ _ ⟨h2, [], 0, rfl, rfl, fun c u hc e => by rw [sb.2 c hc]; exact e, Rp2.congr fun k => by simp, by simp⟩) (fun _ s' hm' => ?_) fun _ _ z => z)
  · rintro x rest _ s' ⟨h', pre, c, rfl, hpre, hk, Rc, hc⟩
    have hxm : x ∈ out.toList := by rw [hpre]; simp
    obtain ⟨k, tk, ex, eh⟩ := hg x (pm.mem_iff.mp hxm)
    obtain ⟨xh, xv⟩ := x
    simp only at ex eh
    subst ex eh
    have ek : L2.keyOf (hashInt k, Value.int k tk) = k := rfl
    have mm : ∀ j, decide (j ∈ (pre ++ [(hashInt k, Value.int k tk)]).map L2.keyOf) = (decide (j ∈ pre.map L2.keyOf) || decide (j = k)) := fun j => by
      rw [List.map_append, List.map_cons, List.map_nil, ek, Bool.eq_iff_iff]
      simp only [List.mem_append, List.mem_singleton, decide_eq_true_eq, Bool.or_eq_true]
    have hlen : pre.length + 1 ≤ es.size := by
      have := congrArg List.length hpre
      simp at this
      omega
    have R2' : SetR w h' b S2 m := R2.at fun u e => hk b u hbp (k1 _ _ e)
    have fin : ∀ h'' c2, (∀ c u, c ≠ p → h1.get? c = some u → h''.get? c = some u) → SetR w h'' p (fun j => decide (j ∈ (pre ++ [(hashInt k, Value.int k tk)]).map L2.keyOf) && !S2 j) c2 → c2 ≤ pre.length + 1 →
      ∀ {α : Type} (u : α) (QR : α → Shared → Prop), (∀ s', MI w s p h1 S2 out.toList rest s' → QR u s') → wpAny (model P w) A (Builtin.Frozenset.unchanged nm a ep >>= fun _ => pure u) QR E { s with heap := h'' } := fun h'' c2 z1 z2 z3 α u QR hQR =>
      wpAny_bind (unchanged_at (z1 _ _ hap (k1 _ _ ho)) hd hf (wpAny_pure (hQR _ ⟨h'', pre ++ [(hashInt k, Value.int k tk)], c2, rfl, by rw [hpre]; simp, z1, z2, by simpa using z3⟩)))
    refine wpAny_bind (wpAny_holding ?_)
    try simp only [if_true]
    refine wpAny_bind (wpAny_setFind_of (knd := intKind P w) (k := k) (s := { s with heap := h' }) (intKind_is P w k tk) rfl R2'.setOf fun r hr => ?_)
    refine wpAny_bind (wpAny_pure ?_)
    rw [hr]
    cases hs : S2 k with
    | true =>
      refine wp_if_neg (by simp) (wpAny_pure (fin h' c hk (Rc.congr fun j => ?_) (by omega) _ _ fun _ z => z))
      show (decide (j ∈ (pre ++ [(hashInt k, Value.int k tk)]).map L2.keyOf) && !S2 j) = (decide (j ∈ pre.map L2.keyOf) && !S2 j)
      rw [mm]
      by_cases z : j = k
      · subst z; rw [hs]; simp
      · rw [decide_eq_false z, Bool.or_false]
    | false =>
      refine wp_if_pos (by simp) (wpAny_bind (setR_add_hashed (s := { s with heap := h' }) Rc ?_ fun h3 sb3 R3 => wpAny_pure (fin h3 _ (fun c u hc e => by rw [sb3.2 c hc]; exact hk c u hc e) (R3.congr fun j => ?_) ?_ _ _ fun _ z => z)))
      · omega
      · show (decide (j ∈ (pre ++ [(hashInt k, Value.int k tk)]).map L2.keyOf) && !S2 j) = (decide (j ∈ pre.map L2.keyOf) && !S2 j || decide (j = k))
        rw [mm]
        by_cases z : j = k
        · subst z; rw [hs]; simp
        · rw [decide_eq_false z, Bool.or_false, Bool.or_false]
      · split <;> omega
  · exact fun _ _ z => z
  · obtain ⟨h', pre, c, rfl, hpre, hk, Rc, hc⟩ := hm'
    refine wpAny_pure ?_
    refine wpAny_pure ?_
    rw [List.append_nil] at hpre
    subst hpre
    refine hQ h' p c hp.symm (fun c u e => hk c u (by rw [← hp]; exact Nat.ne_of_lt (Heap.lt_size e)) (k1 _ _ e)) ?_ (Rc.congr fun j => ?_)
    · rw [← hn, ← hout]; simpa using hc
    · have e1 : decide (j ∈ out.toList.map L2.keyOf) = S j := by
        cases q : S j with
        | true => exact decide_eq_true ((pm.map L2.keyOf).mem_iff.mpr ((hm j).mp q))
        | false =>
          refine decide_eq_false fun z => ?_
          have := (hm j).mpr ((pm.map L2.keyOf).mem_iff.mp z)
          rw [q] at this; cases this
      show (S j && !S2 j) = _
      rw [e1]
end
end Y

namespace Y
open PySem PySem.Spec PyProof.Rows L2
def rMin (w : World) : R2 := fun x y H Q => ∃ (a b : Addr) (S S2 : Int → Bool) (n m : Nat), x = .ref a ∧ y = .ref b ∧ H a = some (SetO w a S n) ∧ H b = some (SetO w b S2 m) ∧ n / 4 ≤ m ∧
  ∀ p c, H p = none → c ≤ n → Q (.ref p) (upd H p (SetO w p (fun j => S j && !S2 j) c))
theorem od_min {X : Cx} : OpR X (binaryOp .Sub) (rMin X.w) := by
  intro pins s σ H x y v u Q I rx ry ⟨a, b, S, S2, n, m, ex, ey, ha, hb, hz, q⟩
  subst ex ey
  cases rx
  cases ry
  have Ra := setO_get I ha
  have Rb := setO_get I hb
  have tA : s.TypeIs (.ref a) "set" := by obtain ⟨o, _, _, _, ho, hx, _⟩ := Ra; exact ⟨o, ho, hx.1⟩
  have tB : s.TypeIs (.ref b) "set" := by obtain ⟨o, _, _, _, ho, hx, _⟩ := Rb; exact ⟨o, ho, hx.1⟩
  refine wpAny_binaryOp_same (op := .Sub) (T := "set") tA tB F.fills_set_sub F.slot_set_sub (wpAny_call_entry F.slot_set_sub tA entry_s_sub ?_ (F.args_set_sub_2 _ _))
  unfold Builtin.«frozenset.__sub__»
  show wpAny _ _ (Builtin.Frozenset.slot1 "__sub__" ⟨[.ref a, .ref b], []⟩ >>= _) _ _ _
  refine wpAny_bind ?_
  show wpAny _ _ (pure (Value.ref a, Value.ref b)) _ _ _
  refine wpAny_pure ?_
  simp only [Bool.false_eq_true, if_false]
  refine wpAny_bind ?_
  unfold andM
  refine wpAny_bind (anySet_at tA ?_)
  show wpAny _ _ (Builtin.Frozenset.isAnySet (.ref b)) _ _ _
  refine anySet_at tB ?_
  refine wp_if_neg (by simp) ?_
  unfold Builtin.Frozenset.addrOf
  refine wpAny_bind (wpAny_pure ?_)
  refine wpAny_bind (minus_at Ra Rb hz fun h' p c hp hk hc R => ?_)
  show wpAny _ _ (ret (Value.ref p)) _ _ _
  subst hp
  exact wpAny_pure ⟨_, rfl, nofun, .ref _, upd H s.heap.objs.size (SetO X.w s.heap.objs.size (fun j => S j && !S2 j) c), I.laid (t' := s.toks) hk (Nat.le_refl _) (setO_new R), rfl, q _ c (I.hok.fresh (Nat.le_refl _)) hc⟩
end Y

namespace Y
open PySem PySem.Spec PyProof.Rows L2
def lessI (xs ys : List Int) : List Int := setI (xs.filter fun k => !decide (k ∈ ys))
section
variable {K : PySem.W.Frag} {X : Cx} {P0 : Pr} {O W : List Nat} {E : EK} {a b : Expr} {ma mb : EM} {pos : Pos}
end
variable {ρ : Y.Env}
end Y

set_option Elab.async false
set_option linter.all false
set_option maxRecDepth 100000
set_option maxHeartbeats 4000000
namespace Y
open PySem PySem.Spec PyProof.Rows L2
def sOwnDZ (m : AM) (i : Nat) : SM := fun ρ => m ρ >>= fun p => match p.1 with
  | [h, h2] => (h.d p.2).nox >>= fun x => (h2.d p.2).nox >>= fun y => (dictZ x y).nox >>= fun d => match d with
    | .dik ks ds => (match intsOf ds with
      | some ns => if i < p.2.length then R.ok (Fl.nx, p.2.set i (some (.dik ks ds))) else .stk
      | none => .stk)
    | _ => .stk
  | _ => .stk
section
variable {X : Cx} {P0 : Pr} {O W U : List Nat} {E : EK} {a b : Expr} {ms : AM} {pos : Pos}
theorem cs_ownDZ {i : Nat} {x : Str} {p p2 p3 p4 q : Pos} (hun : X.A.units + 64 < cLine) (hc : X.calm = true) (hm : X.mg "dict" = none) (hm2 : X.mg "zip" = none) (hN : X.N.Nodup) (ha : CA X P0 O W E [a, b] ms) (hg : Gl X "dict" := by rfl) (hg2 : Gl X "zip" := by rfl)
    (hi : i ∈ O := by decide) (hu : i ∉ U := by decide) (hx : X.N[i]? = some x := by rfl) (hl : Loc X.env.scope x := by first | exact Or.inl rfl | exact Or.inr rfl) (hf : X.fn x = true ∨ X.env.scope.names.lookup x = some .local := by first | exact .inl rfl | exact .inr rfl)
    (hs : starEach [.Call (.Name "zip" p2) [a, b] [] q] X.env = (false, eval (.Call (.Name "zip" p2) [a, b] [] q) X.env) :: starEach [] X.env := by rfl)
    (hs2 : starEach [a, b] X.env = (false, eval a X.env) :: starEach [b] X.env := by rfl) (hpl : (backTo q (starEach [b] X.env)).any (·.1) = false := by rfl)
    (hsw : swapsWithSole [.Name x p3] (.Call (.Name "dict" p) [.Call (.Name "zip" p2) [a, b] [] q] [] pos) p4.line X.env = pure false := by rfl) (hw : swappedStores [.Name x p3] (.Call (.Name "dict" p) [.Call (.Name "zip" p2) [a, b] [] q] [] pos) X.env = pure none := by rfl) :
    CS X P0 O W U E (.Assign [.Name x p3] (.Call (.Name "dict" p) [.Call (.Name "zip" p2) [a, b] [] q] [] pos) p4) (sOwnDZ ms i) := by
  refine PS.imp (ps_asg (pe_dictZip hun hc hg hm hg2 hm2 ha hs hs2 hpl) (pg_name hN hx hl hf) hsw hw) fun DD σ H ⟨ρ, S, h⟩ => ?_
  refine ⟨ρ, S, (h.of_bind.down S.sub).mono fun ⟨hs, ρ1⟩ q vs H1 S1 k1 r1 => ?_⟩
  match hs, r1, q with
  | [h, h2], r1, q =>
    obtain ⟨v, ws, rfl, t1, t2⟩ := r1
    obtain ⟨w, us, rfl, t3, t4⟩ := t2
    have t4 : us = [] := t4
    subst t4
    obtain ⟨x, ex, q1⟩ := Res.of_nox (show Res E O σ H ((h.d ρ1).nox >>= _) _ from q)
    obtain ⟨y, ey, q2⟩ := q1.of_nox
    obtain ⟨d, ed, q3⟩ := q2.of_nox
    clear q q1 q2
    obtain ⟨xs, e1, ed⟩ := R.ok_of ed
    obtain ⟨ys, e2, ed⟩ := R.ok_of ed
    obtain ⟨e2, ns⟩ := seqD_ok e2
    obtain ⟨c1, vs1, rfl, f1, g1, _⟩ := (t1.d S1 ex).kd e1
    obtain ⟨c2, vs2, rfl, f2, g2, kk⟩ := (t3.d S1 ey).kd e2
    have nt : ∀ z, c2 ≠ .s z := fun z e => by
      subst e
      cases y <;> simp [kdOf, Kd.val] at kk
      · exact ns _ rfl
    by_cases c : xs.length = ys.length ∧ szOk xs.length = true
    · rw [if_pos c] at ed
      have l1 : vs1.length = xs.length := g1.length
      have l2 : vs2.length = ys.length := g2.length
      have lz : (vs1.zip vs2).length = xs.length := by rw [List.length_zip, l1, l2, ← c.1, Nat.min_self]
      refine ⟨c1, c2, vs1, vs2, rfl, f1, f2, nt, by rw [lz]; exact of_decide_eq_true c.2, ?_⟩
      cases ek : keysOf xs with
      | some ks =>
        rw [ek] at ed
        by_cases nd : ks.Nodup
        · have ed : (if ks.Nodup then R.ok (D.dik ks ys) else R.stk) = R.ok d := ed
          rw [if_pos nd] at ed
          cases ed
          have eks := keysOf_rep g1 ek
          have lk : ks.length = vs2.length := by rw [l2, ← c.1, ← l1, eks, List.length_map]
          cases ey2 : intsOf ys with
          | none => simp only [ey2] at q3; exact q3.elim
          | some nn =>
            simp only [ey2] at q3
            by_cases hlen : i < ρ1.length
            · rw [if_pos hlen] at q3
              have ev := ints_rep ey2 g2
              refine .inl ⟨ks.zip vs2, paired_of (by rw [List.length_zip, List.length_zip]; have c1 := c.1; omega) fun j p pq ea eb => ?_, by rw [fstZip (Nat.le_of_eq lk)]; exact nd, fun p np => ?_⟩
              · obtain ⟨z1, z2⟩ := List.getElem?_zip_eq_some.mp ea
                obtain ⟨z3, z4⟩ := List.getElem?_zip_eq_some.mp eb
                rw [z2] at z4
                rw [eks, List.getElem?_map, z1] at z3
                refine ⟨Option.some.inj z4, (Option.some.inj z3).symm⟩
              · have ro : ∀ P, RepO X.K (upd H1 p (.dK (ks.zip vs2))) (.dik ks ys) P (.ref p) := fun P => by
                  refine ⟨p, vs2, rfl, lk, upd_same, ?_⟩
                  rw [ev, intsOf_inv ey2]
                  exact reps_ints _
                have tr := tr_new (o := .dK (ks.zip vs2)) (U := U) S1 hi hu hlen np
                refine q3 _ _ (S1.newO hi hlen np trivial ro) ⟨fun b o e n => tr.keep b o (k1.keep b o e fun z => n (S.oaw z)) n, fun b e => tr.some b (k1.some b e), fun b z => ?_, tr.unch⟩ (by simp)
                rcases tr.own b z with z | z
                · exact .inl z
                · exact .inr (Classical.byContradiction fun w => k1.some b w z)
            · rw [if_neg hlen] at q3
              exact q3.elim
        · have ed : (if ks.Nodup then R.ok (D.dik ks ys) else R.stk) = R.ok d := ed
          rw [if_neg nd] at ed
          cases ed
      | none =>
        rw [ek] at ed
        have ed : (match keysT xs with | some ks => if ks.Nodup then R.ok (D.dit ks ys) else R.stk | none => R.stk) = R.ok d := ed
        cases et : keysT xs with
        | none => rw [et] at ed; cases ed
        | some ks =>
          rw [et] at ed
          by_cases nd : ks.Nodup
          · have ed : (if ks.Nodup then R.ok (D.dit ks ys) else R.stk) = R.ok d := ed
            rw [if_pos nd] at ed
            cases ed
            exact q3.elim
          · have ed : (if ks.Nodup then R.ok (D.dit ks ys) else R.stk) = R.ok d := ed
            rw [if_neg nd] at ed
            cases ed
    · rw [if_neg c] at ed
      cases ed
  | [], _, q => exact q.elim
  | [_], _, q => exact q.elim
  | _ :: _ :: _ :: _, _, q => exact q.elim
end
variable {ρ : Y.Env}
@[simp] theorem e_ownDZ {m : AM} {i : Nat} : sOwnDZ m i ρ = (m ρ >>= fun p => match p.1 with
  | [h, h2] => (h.d p.2).nox >>= fun x => (h2.d p.2).nox >>= fun y => (dictZ x y).nox >>= fun d => match d with
    | .dik ks ds => (match intsOf ds with
      | some ns => if i < p.2.length then R.ok (Fl.nx, p.2.set i (some (.dik ks ds))) else .stk
      | none => .stk)
    | _ => .stk
  | _ => .stk) := id rfl
end Y

set_option Elab.async false
set_option linter.all false
set_option maxRecDepth 100000
namespace Y
open PySem PySem.Spec PyProof.Rows L2
def inFD : D → D → R D
  | x, .ftu ds => if (flatD x && ds.all flatD) = true then .ok (.bl (ds.any fun z => eqP z x)) else .stk
  | _, _ => .stk
section
variable {X : Cx}
theorem od_inF : OpR X (compareOp .In) (rD X.K inFD) := by
  intro pins s σ H x y v u Q I rx ry ⟨P, dx, dy, dz, hm, r1, r2, e, out⟩
  unfold inFD at e
  split at e
  · split at e
    · rename_i c; cases e
      rw [Bool.and_eq_true] at c
      obtain ⟨a, vs, o, rfl, h1, hd, h2⟩ := r2.ftu
      refine op_in_seq pins s σ H _ _ v u Q I rx ry ⟨a, vs, rfl, .inr (SqT.fz h1), flat_rep c.1 (flatW c.1 r1), flats_rep c.2 h2, ?_⟩
      rw [if_neg (by decide), inV_rep c.1 (flatW c.1 r1) c.2 h2]
      exact out.bl
    · cases e
  · cases e
end
end Y

set_option Elab.async false
set_option linter.all false
set_option maxRecDepth 100000
set_option maxHeartbeats 4000000
namespace Y
open PySem PySem.Spec PyProof.Rows L2
def ninFD : D → D → R D
  | x, .ftu ds => if (flatD x && ds.all flatD) = true then .ok (.bl (!ds.any fun z => eqP z x)) else .stk
  | _, _ => .stk
section
variable {X : Cx}
theorem od_ninF : OpR X (compareOp .NotIn) (rD X.K ninFD) := by
  intro pins s σ H x y v u Q I rx ry ⟨P, dx, dy, dz, hm, r1, r2, e, out⟩
  unfold ninFD at e
  split at e
  · split at e
    · rename_i c; cases e
      rw [Bool.and_eq_true] at c
      obtain ⟨a, vs, o, rfl, h1, hd, h2⟩ := r2.ftu
      refine op_notIn_seq pins s σ H _ _ v u Q I rx ry ⟨a, vs, rfl, .inr (SqT.fz h1), flat_rep c.1 (flatW c.1 r1), flats_rep c.2 h2, ?_⟩
      rw [if_pos rfl, inV_rep c.1 (flatW c.1 r1) c.2 h2]
      exact out.bl
    · cases e
  · cases e
end
def seqG : D → Option (List Int)
  | .ftu ds => intsOf ds
  | .tup ds => intsOf ds
  | .lst ds => intsOf ds
  | _ => none
theorem RepW.seqG {K : PySem.W.Frag} {H : Hp} {d : D} {P : Pr} {v : V} {ns : List Int} (r : RepW K H d P v) (e : seqG d = some ns) : ∃ l, v = .ref l ∧ (SqL K H l (ns.map V.int) ∨ SqT K H l (ns.map V.int)) := by
  cases d <;> simp only [Y.seqG, reduceCtorEq] at e
  · obtain ⟨l, vs, rfl, t1, t2⟩ := r.tup
    rw [ints_rep e t2] at t1
    exact ⟨l, rfl, .inr (SqT.of t1)⟩
  · obtain ⟨l, vs, rfl, t1, t2⟩ := r.lst
    rw [ints_rep e t2] at t1
    exact ⟨l, rfl, .inl (SqL.of t1)⟩
  · obtain ⟨l, vs, o, rfl, t1, _, t2⟩ := r.ftu
    rw [ints_rep e t2] at t1
    exact ⟨l, rfl, .inr (SqT.fz t1)⟩
def cLenSetG (m : EM) : EM := fun ρ => m ρ >>= fun p => (p.1.d p.2).nox >>= fun d => match seqG d with
  | some ns => if ns.length ≤ 4000 then R.ok (.fr (.int (dedupI ns).length), p.2) else .stk
  | none => .stk
def cSetMinG (a b : EM) : EM := fun ρ => a ρ >>= fun p => (p.1.d p.2).nox >>= fun d => match seqG d with
  | some ns => if ns.length ≤ 4000 then (b p.2 >>= fun p2 => (p2.1.d p2.2).nox >>= fun d2 => match seqG d2 with
      | some ms => if ms.length ≤ 4000 ∧ (dedupI ns).length < 64 ∧ (dedupI ns).length / 4 ≤ (dedupI ms).length then R.ok (Hd.fr (.lst ((lessI ns ms).map D.int)), p2.2) else .stk
      | none => .stk) else .stk
  | none => .stk
section
variable {K : PySem.W.Frag} {X : Cx} {P0 : Pr} {O W : List Nat} {E : EK} {a b : Expr} {ma mb : EM} {pos : Pos}
theorem ce_lenSetG {p p2 q : Pos} (hc : X.calm = true) (hm : X.mg "len" = none) (hm2 : X.mg "set" = none) (ha : CEx X P0 O W E a ma) (hg : Gl X "len" := by rfl) (hg2 : Gl X "set" := by rfl)
    (na : starEach [a] X.env = (false, eval a X.env) :: starEach [] X.env := by rfl) (n2 : starEach [.Call (.Name "set" p2) [a] [] q] X.env = (false, eval (.Call (.Name "set" p2) [a] [] q) X.env) :: starEach [] X.env := by rfl) :
    CEx X P0 O W E (.Call (.Name "len" p) [.Call (.Name "set" p2) [a] [] q] [] pos) (cLenSetG ma) :=
  PE.imp (pe_callB cr_lenSet hg hm bo_len (pa_cons (pe_callTy (cr_setOf hc) hg2 hm2 bo_set (pa_cons ha pa_nil na) (by decide) (by decide) na rfl) pa_nil n2) (by decide) (by decide) n2 rfl) fun σ H Q ⟨ρ, S, h⟩ => by
    refine ⟨ρ, S, h.of_bind.mono fun ⟨h1, ρ1⟩ q v H1 S1 k1 r1 => ?_⟩
    obtain ⟨d, e1, q⟩ := q.of_nox
    have rw1 := r1.d S1 e1
    have q : Res E W σ H (match seqG d with | some ns => if ns.length ≤ 4000 then R.ok (Hd.fr (.int (dedupI ns).length), ρ1) else .stk | none => .stk) _ := q
    cases es : seqG d with
    | none => rw [es] at q; exact q.elim
    | some ns =>
      rw [es] at q
      simp only at q
      by_cases c : ns.length ≤ 4000
      · rw [if_pos c] at q
        obtain ⟨l, rfl, hl⟩ := rw1.seqG es
        refine ⟨l, ns, rfl, hl, c, fun p hp => ⟨p, _, _, rfl, upd_same, ?_⟩⟩
        exact out_of (K := X.K) S1 k1 q _ _ (Same.new hp) (by unfold Rep; rfl) fun z => by cases z
      · rw [if_neg c] at q
        exact q.elim
theorem ce_setMinG {p p2 p3 q q2 q3 : Pos} (hc : X.calm = true) (hm : X.mg "sorted" = none) (hm2 : X.mg "set" = none) (ha : CEx X P0 O W E a ma) (hb : CEx X P0 O W E b mb) (hg : Gl X "sorted" := by rfl) (hg2 : Gl X "set" := by rfl)
    (na : starEach [a] X.env = (false, eval a X.env) :: starEach [] X.env := by rfl) (nb : starEach [b] X.env = (false, eval b X.env) :: starEach [] X.env := by rfl)
    (n2 : starEach [.BinOp (.Call (.Name "set" p2) [a] [] q) .Sub (.Call (.Name "set" p3) [b] [] q2) q3] X.env = (false, eval (.BinOp (.Call (.Name "set" p2) [a] [] q) .Sub (.Call (.Name "set" p3) [b] [] q2) q3) X.env) :: starEach [] X.env := by rfl) :
    CEx X P0 O W E (.Call (.Name "sorted" p) [.BinOp (.Call (.Name "set" p2) [a] [] q) .Sub (.Call (.Name "set" p3) [b] [] q2) q3] [] pos) (cSetMinG ma mb) :=
  PE.imp (pe_callB (cr_sortedSet hc) hg hm bo_sorted (pa_cons (pe_op od_min (pe_callTy (cr_setOf hc) hg2 hm2 bo_set (pa_cons ha pa_nil na) (by decide) (by decide) na rfl) (pe_callTy (cr_setOf hc) hg2 hm2 bo_set (pa_cons hb pa_nil nb) (by decide) (by decide) nb rfl)) pa_nil n2) (by decide) (by decide) n2 rfl) fun σ H Q ⟨ρ, S, h⟩ => by
    refine ⟨ρ, S, h.of_bind.mono fun ⟨h1, ρ1⟩ q v H1 S1 k1 r1 => ?_⟩
    obtain ⟨d, e1, q⟩ := q.of_nox
    have rw1 := r1.d S1 e1
    have q : Res E W σ H (match seqG d with
      | some ns => if ns.length ≤ 4000 then (mb ρ1 >>= fun p => (p.1.d p.2).nox >>= fun d2 => match seqG d2 with
          | some ms => if ms.length ≤ 4000 ∧ (dedupI ns).length < 64 ∧ (dedupI ns).length / 4 ≤ (dedupI ms).length then R.ok (Hd.fr (.lst ((lessI ns ms).map D.int)), p.2) else .stk
          | none => .stk) else .stk
      | none => .stk) _ := q
    cases es : seqG d with
    | none => rw [es] at q; exact q.elim
    | some ns =>
      rw [es] at q
      simp only at q
      by_cases c : ns.length ≤ 4000
      · rw [if_pos c] at q
        obtain ⟨l, rfl, hl⟩ := rw1.seqG es
        refine ⟨l, ns, rfl, hl, c, fun p1 hp1 => ?_⟩
        have sm1 : Same H1 (upd H1 p1 (SetO X.w p1 (fun j => decide (j ∈ ns)) (dedupI ns).length)) := Same.new hp1
        refine ⟨ρ1, S1.same sm1, (q.keep (k1.trans (Keep.same sm1))).of_bind.mono fun ⟨h2, ρ2⟩ q2 v2 H2 S2 k2 r2 => ?_⟩
        obtain ⟨d2, e2, q2⟩ := q2.of_nox
        have rw2 := r2.d S2 e2
        cases es2 : seqG d2 with
        | none => rw [es2] at q2; exact q2.elim
        | some ms =>
          rw [es2] at q2
          simp only at q2
          by_cases c2 : ms.length ≤ 4000 ∧ (dedupI ns).length < 64 ∧ (dedupI ns).length / 4 ≤ (dedupI ms).length
          · rw [if_pos c2] at q2
            obtain ⟨l2, rfl, hl2⟩ := rw2.seqG es2
            refine ⟨l2, ms, rfl, hl2, c2.1, fun p2 hp2 => ?_⟩
            have np1 : ¬ OA W σ p1 := fun z => by
              have := (S1.same sm1).dom p1 (.inr (S1.oaw z))
              rw [upd_same] at this
              exact this
            have e3 : H2 p1 = some (SetO X.w p1 (fun j => decide (j ∈ ns)) (dedupI ns).length) := k2.keep p1 _ upd_same np1
            have n21 : p1 ≠ p2 := fun z => by subst z; rw [hp2] at e3; cases e3
            have sm2 : Same H2 (upd H2 p2 (SetO X.w p2 (fun j => decide (j ∈ ms)) (dedupI ms).length)) := Same.new hp2
            refine ⟨p1, p2, _, _, _, _, rfl, rfl, by rw [upd_ne n21]; exact e3, upd_same, c2.2.2, fun p3 c3 hp3 hc3 => ?_⟩
            refine ⟨p3, _, _, rfl, upd_same, by omega, fun xs p' pw mm lm hp' => ?_⟩
            have em : xs = lessI ns ms := setI_of pw fun k => by rw [mm]; simp
            subst em
            have n34 : p' ≠ p3 := fun z => by rw [z, upd_same] at hp'; cases hp'
            have hp' : upd H2 p2 (SetO X.w p2 (fun j => decide (j ∈ ms)) (dedupI ms).length) p' = none := by rwa [upd_ne n34] at hp'
            have n24 : p' ≠ p2 := fun z => by rw [z, upd_same] at hp'; cases hp'
            have hpn : H2 p' = none := by rwa [upd_ne n24] at hp'
            have hp3n : H2 p3 = none := by
              by_cases z : p3 = p2
              · subst z; exact hp2
              · rwa [upd_ne z] at hp3
            refine out_of (K := X.K) S2 ((k1.trans (Keep.same sm1)).trans k2) q2 _ _ (fun b o e => ?_) ?_ fun _ a e => by cases e; exact hpn
            · rw [upd_ne (ne_of_none e hpn), upd_ne (ne_of_none e hp3n), upd_ne (ne_of_none e hp2)]; exact e
            · unfold Rep
              exact ⟨p', _, rfl, fun z => (S2.dom p' z).some hpn, upd_same, reps_ints _⟩
          · rw [if_neg c2] at q2
            exact q2.elim
      · rw [if_neg c] at q
        exact q.elim
end
def sTryN (es : List Str) (m : TM) (h : SM) : SM := fun ρ => do
  let (x, ρ1) ← (m ρ).nox
  match x with
  | .inl f => pure (f, ρ1)
  | .inr c => if c ∈ es then (h ρ1).nox else .stk
section
variable {X : Cx} {P0 : Pr} {O W U : List Nat} {E : EK}
theorem cs_tryN {tm : TM} {h : SM} {cl : List Str} {x : Str} {body suite : List Stmt} {b₀ : Stmt} {np pos pos' : Pos} (hcat : CatF X.K X.mg cl x)
    (hb : ∀ (Ws : WX) (pn : List (Addr × Obj)) (xe : Value → Shared → Prop), L2N.Takes (X.tr pn xe) Ws → PSs (X.tr pn xe) body (tTb X.K X.mg P0 O W U tm Ws))
    (hsu : ∀ (a : Addr) (oe : Obj) (pn : List (Addr × Obj)), CSs (X.suite a ((a, oe) :: pn)) P0 O W U E00 (b₀ :: suite) h)
    (hs : X.stack = X.env :: X.outer := by rfl) (hf : X.env.frame = some X.env.locals := by rfl) (hg : Gl X x := by rfl) (hdb : (x == ("__debug__" : Str)) = false := by decide)
    (tk : L2N.Takes X fun _ _ _ _ => False := by exact fun _ _ z => by rcases z with ⟨_, _, _, _, _, _, _, _, _, _, _, _, _, _, _, _, y⟩; exact y.elim) :
    CS X P0 O W U E (.Try body [.ExceptHandler (some (.Name x np)) none (b₀ :: suite) pos'] [] [] pos) (sTryN cl tm h) := by
  obtain ⟨u, hu, hk⟩ := hcat.ex
  refine PS.imp (L2N.ps_try_many (Wout := fun _ _ _ _ => False) (l := [(.ref u, fun _ _ _ D σ H => tSt X.K P0 O W U E00 h D σ H)]) hs hf tk (fun Ws pn xe t _ => hb Ws pn xe t) (.cons ⟨hg, hdb, .inl hu⟩ (fun a oe cls d pn _ _ => hsu a oe pn) .nil)) fun D σ H ⟨ρ, S, r⟩ => ?_
  obtain ⟨⟨y, ρ1⟩, em, r⟩ := Res.of_nox r
  refine ⟨ρ, S, ?_⟩
  rw [em]
  cases y with
  | inl f => exact r
  | inr c =>
    have r : Res E O σ H (if c ∈ cl then (h ρ1).nox else .stk) _ := r
    by_cases hc : c ∈ cl
    · rw [if_pos hc] at r
      intro σ1 H1 S1 t1 l1
      obtain ⟨C, hC, hm⟩ := hk c hc
      refine ⟨C, hC, true, hm, fun _ a na => ⟨ρ1, S1, ?_⟩, fun z => Bool.noConfusion z⟩
      cases eh : h ρ1 with
      | stk => rw [eh] at r; exact r.elim
      | er c ds => rw [eh] at r; exact r.elim
      | ok p =>
        obtain ⟨f, ρ2⟩ := p
        rw [eh] at r
        intro σ2 H2 S2 t2 l2
        have q := r σ2 H2 S2 (t1.trans t2) (l2.trans l1)
        cases f with
        | nx => exact q
        | bk => exact q
        | ct => exact q
        | rt hd => exact fun v r => q v (r.back t1.some)
    · rw [if_neg hc] at r; exact r.elim
end
variable {ρ : Y.Env}
@[simp] theorem e_lenSetG {m : EM} : cLenSetG m ρ = (m ρ >>= fun p => (p.1.d p.2).nox >>= fun d => match seqG d with | some ns => if ns.length ≤ 4000 then R.ok (.fr (.int (dedupI ns).length), p.2) else .stk | none => .stk) := id rfl
@[simp] theorem e_setMinG {a b : EM} : cSetMinG a b ρ = (a ρ >>= fun p => (p.1.d p.2).nox >>= fun d => match seqG d with
      | some ns => if ns.length ≤ 4000 then (b p.2 >>= fun p2 => (p2.1.d p2.2).nox >>= fun d2 => match seqG d2 with
          | some ms => if ms.length ≤ 4000 ∧ (dedupI ns).length < 64 ∧ (dedupI ns).length / 4 ≤ (dedupI ms).length then R.ok (Hd.fr (.lst ((lessI ns ms).map D.int)), p2.2) else .stk
          | none => .stk) else .stk
      | none => .stk) := id rfl
@[simp] theorem e_tryN {es : List Str} {m : TM} {h : SM} : sTryN es m h ρ = ((m ρ).nox >>= fun p => match p.1 with | .inl f => R.ok (f, p.2) | .inr c => if c ∈ es then (h p.2).nox else .stk) := id rfl
@[simp] theorem seqG_l {ns : List Int} : seqG (.lst (ns.map D.int)) = some ns := ints_map ns
@[simp] theorem seqG_t {ns : List Int} : seqG (.tup (ns.map D.int)) = some ns := ints_map ns
@[simp] theorem seqG_f {ns : List Int} : seqG (.ftu (ns.map D.int)) = some ns := ints_map ns
end Y

set_option Elab.async false
set_option linter.all false
set_option maxRecDepth 100000
namespace C
open PySem PySem.Spec PyProof.Rows L2 Y
/-- slots: 0:thing -/
noncomputable def m_is_whole : SM := sRet (cAnd (cIsi isInt (cVar 0)) (cNot (cIsi isBl (cVar 0))))
noncomputable def g_is_whole : List D → R Hd := fnP 1 1 m_is_whole
/-- slots: 0:thing 1:many -/
noncomputable def m_is_upto : SM := sRet (cAnd (cCallF g_is_whole (cCons (cVar 0) (cNil))) (cChain leD ltD (cC (.int 0)) (cVar 0) (cVar 1)))
noncomputable def g_is_upto : List D → R Hd := fnP 2 2 m_is_upto
/-- slots: 0:thing 1:many 2:one -/
noncomputable def e_are_bits_1 : EM := cCallF g_is_upto (cCons (cVar 2) (cCons (cC (.int 2)) (cNil)))
noncomputable def m_are_bits : SM := sRet (cAnd (cIsi isTup (cVar 0)) (cAnd (cOp eqD (cCall lenD (cCons (cVar 0) (cNil))) (cVar 1)) (cCall allD (cCons (cComp (cIter (cVar 0)) (tmName 2) (cYes) (e_are_bits_1) [2]) (cNil)))))
noncomputable def g_are_bits : List D → R Hd := fnP 2 3 m_are_bits
/-- slots: 0:net 1:thing -/
noncomputable def m_is_stand : SM := sRet (cCallF g_are_bits (cCons (cVar 1) (cCons (cCall lenD (cCons (cVar 0) (cNil))) (cNil))))
noncomputable def g_is_stand : List D → R Hd := fnP 2 2 m_is_stand
/-- slots: 0:net 1:thing -/
noncomputable def m_look_at_stand : SM := sIf (cNotT (cTru (cCallF g_is_stand (cCons (cVar 0) (cCons (cVar 1) (cNil)))))) (sRaise "NoStand") (sSkip)
noncomputable def g_look_at_stand : List D → R Hd := fnP 2 2 m_look_at_stand
/-- slots: 0:many 1:found 2:k 3:stand -/
noncomputable def e_stands_of_1 : EM := cOp addD (cTup (cCons (cC (.int 0)) (cNil))) (cVar 3)
noncomputable def e_stands_of_2 : EM := cOp addD (cTup (cCons (cC (.int 1)) (cNil))) (cVar 3)
noncomputable def b_stands_of_1 : SM := sAsg (cOp addD (cComp (cIter (cVar 1)) (tmName 3) (cYes) (e_stands_of_1) [3]) (cComp (cIter (cVar 1)) (tmName 3) (cYes) (e_stands_of_2) [3])) (tmName 1)
noncomputable def m_stands_of : SM := sSeq (sAsg (cLst (cCons (cTup (cNil)) (cNil))) (tmName 1)) (sSeq (sFor [] (cRange rng1D (cCons (cVar 0) (cNil))) (tmName 2) (b_stands_of_1) [2]) (sRet (cVar 1)))
noncomputable def g_stands_of : List D → R Hd := fnP 1 4 m_stands_of
/-- slots: 0:bits 1:place 2:bit -/
noncomputable def b_place_of_1 : SM := sAsg (cOp addD (cOp mulD (cC (.int 2)) (cVar 1)) (cVar 2)) (tmName 1)
noncomputable def m_place_of : SM := sSeq (sAsg (cC (.int 0)) (tmName 1)) (sSeq (sFor [] (cIter (cVar 0)) (tmName 2) (b_place_of_1) [2]) (sRet (cVar 1)))
noncomputable def g_place_of : List D → R Hd := fnP 1 3 m_place_of
/-- slots: 0:net 1:stand 2:k 3:ears 4:table 5:ear -/
noncomputable def e_ought_1 : EM := cIx (cVar 1) (cVar 5)
noncomputable def m_ought : SM := sSeq (sAsg (cIx (cVar 0) (cVar 2)) (tmTup [3, 4])) (sRet (cIx (cVar 4) (cCallF g_place_of (cCons (cComp (cIter (cVar 3)) (tmName 5) (cYes) (e_ought_1) [5]) (cNil)))))
noncomputable def g_ought : List D → R Hd := fnP 3 6 m_ought
/-- slots: 0:net 1:stand 2:k -/
noncomputable def t_wrong_ones_1 : BM := cBl (cOp neD (cCallF g_ought (cCons (cVar 0) (cCons (cVar 1) (cCons (cVar 2) (cNil))))) (cIx (cVar 1) (cVar 2)))
noncomputable def e_wrong_ones_1 : EM := cVar 2
noncomputable def m_wrong_ones : SM := sSeq (sExpr (cCallF g_look_at_stand (cCons (cVar 0) (cCons (cVar 1) (cNil))))) (sRet (cComp (cRange rng1D (cCons (cCall lenD (cCons (cVar 0) (cNil))) (cNil))) (tmName 2) (t_wrong_ones_1) (e_wrong_ones_1) [2]))
noncomputable def g_wrong_ones : List D → R Hd := fnP 2 3 m_wrong_ones
/-- slots: 0:net 1:stand -/
noncomputable def t_rests_of_1 : BM := cBl (cOp eqD (cCallF g_wrong_ones (cCons (cVar 0) (cCons (cVar 1) (cNil)))) (cLst (cNil)))
noncomputable def e_rests_of_1 : EM := cVar 1
noncomputable def m_rests_of : SM := sRet (cComp (cIter (cCallF g_stands_of (cCons (cCall lenD (cCons (cVar 0) (cNil))) (cNil)))) (tmName 1) (t_rests_of_1) (e_rests_of_1) [1])
noncomputable def g_rests_of : List D → R Hd := fnP 1 2 m_rests_of
/-- slots: 0:script 1:k -/
noncomputable def m__law_cell : SM := sSeq (sIf (cBl (cOp ltD (cVar 1) (cCall lenD (cCons (cVar 0) (cNil))))) (sRet (cIx (cVar 0) (cVar 1))) (sSkip)) (sRet (cOp addD (cOp mulD (cC (.int 6151)) (cVar 1)) (cC (.int 29))))
noncomputable def g__law_cell : List D → R Hd := fnP 2 2 m__law_cell
/-- slots: 0:cell 1:k 2:number -/
noncomputable def m__law_mix : SM := sSeq (sAsg (cOp addD (cOp mulD (cOp addD (cVar 0) (cC (.int 1))) (cC (.int 40692))) (cOp mulD (cC (.int 104729)) (cVar 1))) (tmName 2)) (sSeq (sAsg (cOp addD (cOp modD (cOp mulD (cVar 2) (cVar 2)) (cC (.int 2147483399))) (cVar 1)) (tmName 2)) (sRet (cOp modD (cOp mulD (cVar 2) (cOp addD (cVar 2) (cC (.int 31)))) (cC (.int 2147483563)))))
noncomputable def g__law_mix : List D → R Hd := fnP 2 3 m__law_mix
/-- slots: 0:script 1:k 2:here 3:number 4:j -/
noncomputable def b__law_box_1 : SM := sAsg (cOp addD (cOp mulD (cVar 3) (cC (.int 2147483647))) (cCallF g__law_mix (cCons (cVar 2) (cCons (cVar 4) (cNil))))) (tmName 3)
noncomputable def m__law_box : SM := sSeq (sAsg (cCallF g__law_cell (cCons (cVar 0) (cCons (cVar 1) (cNil)))) (tmName 2)) (sSeq (sIf (cBl (cOp eqD (cOp modD (cVar 2) (cC (.int 2))) (cC (.int 0)))) (sRet (cLst (cCons (cOp fdivD (cVar 2) (cC (.int 2))) (cNil)))) (sSkip)) (sSeq (sAsg (cC (.int 0)) (tmName 3)) (sSeq (sFor [] (cRange rng1D (cCons (cC (.int 24)) (cNil))) (tmName 4) (b__law_box_1) [4]) (sRet (cLst (cCons (cVar 3) (cNil)))))))
noncomputable def g__law_box : List D → R Hd := fnP 2 5 m__law_box
/-- slots: 0:box 1:many 2:left 3:digit -/
noncomputable def m__law_take : SM := sSeq (sAsg (cCall divmodD (cCons (cIx (cOwn 0) (cC (.int 0))) (cCons (cVar 1) (cNil)))) (tmTup [2, 3])) (sSeq (sSetIx 0 (cC (.int 0)) (cVar 2)) (sRet (cVar 3)))
noncomputable def g__law_take : Fn := fnD 2 4 [0] m__law_take
/-- slots: 0:net 1:thing -/
noncomputable def m_look_at_switch : SM := sIf (cNotT (cTru (cCallF g_is_upto (cCons (cVar 1) (cCons (cCall lenD (cCons (cVar 0) (cNil))) (cNil)))))) (sRaise "NoSwitch") (sSkip)
noncomputable def g_look_at_switch : List D → R Hd := fnP 2 2 m_look_at_switch
/-- slots: 0:stand 1:k -/
noncomputable def m__law_change : SM := sRet (cOp addD (cOp addD (cSlice (cVar 0) (cNoPart) (cPart (cVar 1))) (cTup (cCons (cOp subD (cC (.int 1)) (cIx (cVar 0) (cVar 1))) (cNil)))) (cSlice (cVar 0) (cPart (cOp addD (cVar 1) (cC (.int 1)))) (cNoPart)))
noncomputable def g__law_change : List D → R Hd := fnP 2 2 m__law_change
/-- slots: 0:rule 1:ears 2:table 3:found 4:place 5:ear 6:far 7:at -/
noncomputable def e_heard_1 : EM := cOp neD (cIx (cVar 2) (cVar 7)) (cIx (cVar 2) (cOp xorD (cVar 7) (cVar 6)))
noncomputable def b_heard_1 : SM := sSeq (sAsg (cOp shlD (cC (.int 1)) (cOp subD (cOp subD (cCall lenD (cCons (cVar 1) (cNil))) (cC (.int 1))) (cVar 4))) (tmName 6)) (sIf (cTru (cCall anyD (cCons (cComp (cRange rng1D (cCons (cCall lenD (cCons (cVar 2) (cNil))) (cNil))) (tmName 7) (cYes) (e_heard_1) [7]) (cNil)))) (sAppend 3 (cTup (cCons (cVar 4) (cCons (cVar 5) (cNil))))) (sSkip))
noncomputable def m_heard : SM := sSeq (sAsg (cVar 0) (tmTup [1, 2])) (sSeq (sOwn [3] [] (cLst (cNil)) 3) (sSeq (sFor [] (cEnumG (cCons (cVar 1) (cNil))) (tmTup [4, 5]) (b_heard_1) [4, 5, 6]) (sRet (cOwn 3))))
noncomputable def g_heard : List D → R Hd := fnP 1 8 m_heard
/-- slots: 0:rule 1:place 2:ears 3:table 4:names 5:told 6:reading 7:bits 8:ear -/
noncomputable def e_rule_anew_1 : EM := cDGet (cVar 1) (cVar 8)
noncomputable def e_rule_anew_2 : EM := cDGet (cVar 7) (cDGet (cVar 1) (cVar 8))
noncomputable def b_rule_anew_1 : SM := sSeq (sAsg (cDictZip (cCons (cVar 4) (cCons (cVar 6) (cNil)))) (tmName 7)) (sAppend 5 (cIx (cVar 3) (cCallF g_place_of (cCons (cComp (cIter (cVar 2)) (tmName 8) (cYes) (e_rule_anew_2) [8]) (cNil)))))
noncomputable def m_rule_anew : SM := sSeq (sAsg (cVar 0) (tmTup [2, 3])) (sSeq (sAsg (cCall sortD (cCons (cComp (cIter (cVar 2)) (tmName 8) (cYes) (e_rule_anew_1) [8]) (cNil))) (tmName 4)) (sSeq (sOwn [5] [] (cLst (cNil)) 5) (sSeq (sFor [] (cIter (cCallF g_stands_of (cCons (cCall lenD (cCons (cVar 2) (cNil))) (cNil)))) (tmName 6) (b_rule_anew_1) [6, 7]) (sRet (cTup (cCons (cCall tupleD (cCons (cVar 4) (cNil))) (cCons (cCall tupleD (cCons (cOwn 5) (cNil))) (cNil))))))))
noncomputable def g_rule_anew : List D → R Hd := fnP 2 9 m_rule_anew
/-- slots: 0:rule 1:bits 2:ear -/
noncomputable def e_bit_for_1 : EM := cDGet (cVar 1) (cVar 2)
noncomputable def m_bit_for : SM := sRet (cIx (cIx (cVar 0) (cC (.int 1))) (cCallF g_place_of (cCons (cComp (cIter (cIx (cVar 0) (cC (.int 0)))) (tmName 2) (cYes) (e_bit_for_1) [2]) (cNil))))
noncomputable def g_bit_for : List D → R Hd := fnP 2 3 m_bit_for
/-- slots: 0:net 1:k 2:found 3:number 4:ears 5:table 6:far 7:told 8:at 9:bit -/
noncomputable def e_flipped_1 : EM := cIx (cVar 5) (cOp xorD (cVar 8) (cVar 6))
noncomputable def e_flipped_2 : EM := cOp subD (cC (.int 1)) (cVar 9)
noncomputable def b_flipped_1 : SM := sSeq (sAsg (cC (.int 0)) (tmName 6)) (sSeq (sIf (cBl (cOp inFD (cVar 1) (cVar 4))) (sAsg (cOp shlD (cC (.int 1)) (cOp subD (cOp subD (cCall lenD (cCons (cVar 4) (cNil))) (cC (.int 1))) (cIndexF (cVar 4) (cVar 1)))) (tmName 6)) (sSkip)) (sSeq (sAsg (cComp (cRange rng1D (cCons (cCall lenD (cCons (cVar 5) (cNil))) (cNil))) (tmName 8) (cYes) (e_flipped_1) [8]) (tmName 7)) (sSeq (sIf (cBl (cOp eqD (cVar 3) (cVar 1))) (sAsg (cComp (cIter (cVar 7)) (tmName 9) (cYes) (e_flipped_2) [9]) (tmName 7)) (sSkip)) (sAppend 2 (cTup (cCons (cVar 4) (cCons (cCall tupleD (cCons (cVar 7) (cNil))) (cNil))))))))
noncomputable def m_flipped : SM := sSeq (sExpr (cCallF g_look_at_switch (cCons (cVar 0) (cCons (cVar 1) (cNil))))) (sSeq (sOwn [2] [] (cLst (cNil)) 2) (sSeq (sFor [] (cEnumG (cCons (cVar 0) (cNil))) (tmMix [tmName 3, tmTup [4, 5]]) (b_flipped_1) [3, 4, 5, 6, 7]) (sRet (cCall tupleD (cCons (cOwn 2) (cNil))))))
noncomputable def g_flipped : List D → R Hd := fnP 2 10 m_flipped
/-- slots: 0:box 1:many 2:ears 3:size 4:number 5:mask 6:least 7:table 8:place 9:j -/
noncomputable def t__law_rule_3_1 : BM := cBl (cOp eqD (cCallIO [(0, 0)] g__law_take (cCons (cOwn 0) (cCons (cC (.int 3)) (cNil)))) (cC (.int 0)))
noncomputable def e__law_rule_3_1 : EM := cVar 9
noncomputable def e__law_rule_3_2 : EM := cOp andD (cOp shrD (cVar 4) (cVar 8)) (cC (.int 1))
noncomputable def e__law_rule_3_3 : EM := cOp andD (cOp shrD (cOp xorD (cVar 8) (cVar 5)) (cVar 9)) (cC (.int 1))
noncomputable def b__law_rule_3_1 : SM := sAppend 7 (cCall intOfD (cCons (cOp geD (cCall sumD (cCons (cComp (cRange rng1D (cCons (cCall lenD (cCons (cVar 2) (cNil))) (cNil))) (tmName 9) (cYes) (e__law_rule_3_3) [9]) (cNil))) (cVar 6)) (cNil)))
noncomputable def m__law_rule_3 : SM := sSeq (sAsg (cCall tupleFD (cCons (cSlice (cComp (cRange rng1D (cCons (cVar 1) (cNil))) (tmName 9) (t__law_rule_3_1) (e__law_rule_3_1) [9]) (cNoPart) (cPart (cC (.int 4)))) (cNil))) (tmName 2)) (sSeq (sAsg (cOp shlD (cC (.int 1)) (cCall lenD (cCons (cVar 2) (cNil)))) (tmName 3)) (sSeq (sIf (cBl (cOp gtD (cCallIO [(0, 0)] g__law_take (cCons (cOwn 0) (cCons (cC (.int 3)) (cNil)))) (cC (.int 0)))) (sSeq (sAsg (cCallIO [(0, 0)] g__law_take (cCons (cOwn 0) (cCons (cOp shlD (cC (.int 1)) (cVar 3)) (cNil)))) (tmName 4)) (sRet (cTup (cCons (cVar 2) (cCons (cCall tupleD (cCons (cComp (cRange rng1D (cCons (cVar 3) (cNil))) (tmName 8) (cYes) (e__law_rule_3_2) [8]) (cNil))) (cNil)))))) (sSkip)) (sSeq (sAsg (cCallIO [(0, 0)] g__law_take (cCons (cOwn 0) (cCons (cVar 3) (cNil)))) (tmName 5)) (sSeq (sAsg (cCallIO [(0, 0)] g__law_take (cCons (cOwn 0) (cCons (cOp addD (cCall lenD (cCons (cVar 2) (cNil))) (cC (.int 2))) (cNil)))) (tmName 6)) (sSeq (sOwn [0, 7] [0] (cLst (cNil)) 7) (sSeq (sFor [0] (cRange rng1D (cCons (cVar 3) (cNil))) (tmName 8) (b__law_rule_3_1) [8]) (sRet (cTup (cCons (cVar 2) (cCons (cCall tupleD (cCons (cOwn 7) (cNil))) (cNil)))))))))))
noncomputable def g__law_rule_3 : Fn := fnD 2 10 [0] m__law_rule_3
/-- slots: 0:rule 1:own 2:table 3:reading 4:bits 5:bit 6:place 7:ear -/
noncomputable def b_slim_rule_2_1 : SM := sSetIx 4 (cVar 6) (cVar 5)
noncomputable def b_slim_rule_2_2 : SM := sSeq (sOwn [2, 4] [] (cOp mulD (cLst (cCons (cC (.int 0)) (cNil))) (cCall lenD (cCons (cIx (cVar 0) (cC (.int 0))) (cNil)))) 4) (sSeq (sFor [] (cZipG (cCons (cVar 3) (cCons (cVar 1) (cNil)))) (tmMix [tmName 5, tmTup [6, 7]]) (b_slim_rule_2_1) [5, 6]) (sAppend 2 (cIx (cIx (cVar 0) (cC (.int 1))) (cCallR g_place_of (cCons (cOwn 4) (cNil))))))
noncomputable def e_slim_rule_2_1 : EM := cVar 7
noncomputable def m_slim_rule_2 : SM := sSeq (sAsg (cCallF g_heard (cCons (cVar 0) (cNil))) (tmName 1)) (sSeq (sOwn [2, 4] [] (cLst (cNil)) 2) (sSeq (sFor [] (cIter (cCallF g_stands_of (cCons (cCall lenD (cCons (cVar 1) (cNil))) (cNil)))) (tmName 3) (b_slim_rule_2_2) [3, 4, 5, 6]) (sRet (cTup (cCons (cCall tupleFD (cCons (cComp (cIter (cVar 1)) (tmTup [6, 7]) (cYes) (e_slim_rule_2_1) [6, 7]) (cNil))) (cCons (cCall tupleD (cCons (cOwn 2) (cNil))) (cNil)))))))
noncomputable def g_slim_rule_2 : List D → R Hd := fnP 1 8 m_slim_rule_2
/-- slots: 0:net 1:rule -/
noncomputable def e_slim_2_1 : EM := cCallF g_slim_rule_2 (cCons (cVar 1) (cNil))
noncomputable def m_slim_2 : SM := sRet (cCall tupleD (cCons (cComp (cIter (cVar 0)) (tmName 1) (cYes) (e_slim_2_1) [1]) (cNil)))
noncomputable def g_slim_2 : List D → R Hd := fnP 1 2 m_slim_2
/-- slots: 0:thing 1:many 2:one -/
noncomputable def e_is_order_3_1 : EM := cCallF g_is_upto (cCons (cVar 2) (cCons (cVar 1) (cNil)))
noncomputable def m_is_order_3 : SM := sSeq (sIf (cOrT (cNotT (cTru (cIsi isTup (cVar 0)))) (cBl (cOp neD (cCall lenD (cCons (cVar 0) (cNil))) (cVar 1)))) (sRet (cC (.bl false))) (sSkip)) (sRet (cAnd (cCall allD (cCons (cComp (cIter (cVar 0)) (tmName 2) (cYes) (e_is_order_3_1) [2]) (cNil))) (cOp eqD (cLenSetG (cVar 0)) (cVar 1))))
noncomputable def g_is_order_3 : List D → R Hd := fnP 2 3 m_is_order_3
/-- slots: 0:net 1:names 2:place 3:at 4:old -/
noncomputable def b_named_anew_2_1 : SM := sDPutS 2 (cVar 4) (cVar 3)
noncomputable def e_named_anew_2_1 : EM := cCallR g_rule_anew (cCons (cIx (cVar 0) (cVar 4)) (cCons (cOwn 2) (cNil)))
noncomputable def m_named_anew_2 : SM := sSeq (sIf (cNotT (cTru (cCallF g_is_order_3 (cCons (cVar 1) (cCons (cCall lenD (cCons (cVar 0) (cNil))) (cNil)))))) (sRaise "NoOrder") (sSkip)) (sSeq (sDicNew false 2) (sSeq (sFor [] (cEnumG (cCons (cVar 1) (cNil))) (tmTup [3, 4]) (b_named_anew_2_1) [3]) (sRet (cCall tupleD (cCons (cComp (cIter (cVar 1)) (tmName 4) (cYes) (e_named_anew_2_1) [4]) (cNil))))))
noncomputable def g_named_anew_2 : List D → R Hd := fnP 2 5 m_named_anew_2
/-- slots: 0:rule 1:k 2:own 3:ears 4:table 5:reading 6:bits -/
noncomputable def b_told_without_2_1 : SM := sSeq (sOwnDZ (cCons (cVar 3) (cCons (cVar 5) (cNil))) 6) (sSeq (sDPutS 6 (cVar 1) (cCallR g_bit_for (cCons (cVar 2) (cCons (cOwn 6) (cNil))))) (sAppend 4 (cCallR g_bit_for (cCons (cVar 0) (cCons (cOwn 6) (cNil))))))
noncomputable def m_told_without_2 : SM := sSeq (sIf (cBl (cOp ninFD (cVar 1) (cIx (cVar 0) (cC (.int 0))))) (sRet (cVar 0)) (sSkip)) (sSeq (sAsg (cSetMinG (cOp addGD (cIx (cVar 0) (cC (.int 0))) (cIx (cVar 2) (cC (.int 0)))) (cLst (cCons (cVar 1) (cNil)))) (tmName 3)) (sSeq (sOwn [4, 6] [] (cLst (cNil)) 4) (sSeq (sFor [] (cIter (cCallF g_stands_of (cCons (cCall lenD (cCons (cVar 3) (cNil))) (cNil)))) (tmName 5) (b_told_without_2_1) [5, 6]) (sRet (cTup (cCons (cCall tupleFD (cCons (cVar 3) (cNil))) (cCons (cCall tupleD (cCons (cOwn 4) (cNil))) (cNil))))))))
noncomputable def g_told_without_2 : List D → R Hd := fnP 3 7 m_told_without_2
/-- slots: 0:net 1:k 2:own -/
noncomputable def m_own_rule_2 : SM := sSeq (sExpr (cCallF g_look_at_switch (cCons (cVar 0) (cCons (cVar 1) (cNil))))) (sSeq (sAsg (cCallF g_slim_rule_2 (cCons (cIx (cVar 0) (cVar 1)) (cNil))) (tmName 2)) (sSeq (sIf (cOrT (cBl (cOp inFD (cVar 1) (cIx (cVar 2) (cC (.int 0))))) (cBl (cOp eqD (cCall lenD (cCons (cVar 0) (cNil))) (cC (.int 1))))) (sRaise "Hears") (sSkip)) (sRet (cVar 2))))
noncomputable def g_own_rule_2 : List D → R Hd := fnP 2 3 m_own_rule_2
/-- slots: 0:net 1:k 2:own 3:found 4:number 5:rule 6:ears 7:table 8:ear -/
noncomputable def e_folded_2_1 : EM := cOp subD (cVar 8) (cCall intOfD (cCons (cOp gtD (cVar 8) (cVar 1)) (cNil)))
noncomputable def b_folded_2_1 : SM := sIf (cBl (cOp neD (cVar 4) (cVar 1))) (sSeq (sAsg (cCallF g_slim_rule_2 (cCons (cCallF g_told_without_2 (cCons (cVar 5) (cCons (cVar 1) (cCons (cVar 2) (cNil))))) (cNil))) (tmTup [6, 7])) (sSeq (sIf (cBl (cOp gtD (cCall lenD (cCons (cVar 6) (cNil))) (cC (.int 4)))) (sRaise "TooMany") (sSkip)) (sAppend 3 (cTup (cCons (cCall tupleD (cCons (cComp (cIter (cVar 6)) (tmName 8) (cYes) (e_folded_2_1) [8]) (cNil))) (cCons (cVar 7) (cNil))))))) (sSkip)
noncomputable def m_folded_2 : SM := sSeq (sAsg (cCallF g_own_rule_2 (cCons (cVar 0) (cCons (cVar 1) (cNil)))) (tmName 2)) (sSeq (sOwn [3] [] (cLst (cNil)) 3) (sSeq (sFor [] (cEnumG (cCons (cVar 0) (cNil))) (tmTup [4, 5]) (b_folded_2_1) [4, 5, 6, 7]) (sRet (cCall tupleD (cCons (cOwn 3) (cNil))))))
noncomputable def g_folded_2 : List D → R Hd := fnP 2 9 m_folded_2
/-- slots: 0:net 1:k 2:stand 3:found -/
noncomputable def m_unfolded_2 : SM := sSeq (sExpr (cCallF g_look_at_stand (cCons (cCallF g_folded_2 (cCons (cVar 0) (cCons (cVar 1) (cNil)))) (cCons (cVar 2) (cNil))))) (sSeq (sAsg (cOp addD (cOp addD (cSlice (cVar 2) (cNoPart) (cPart (cVar 1))) (cTup (cCons (cC (.int 0)) (cNil)))) (cSlice (cVar 2) (cPart (cVar 1)) (cNoPart))) (tmName 3)) (sRet (cOp addD (cOp addD (cSlice (cVar 2) (cNoPart) (cPart (cVar 1))) (cTup (cCons (cCallF g_ought (cCons (cVar 0) (cCons (cVar 3) (cCons (cVar 1) (cNil))))) (cNil)))) (cSlice (cVar 2) (cPart (cVar 1)) (cNoPart)))))
noncomputable def g_unfolded_2 : List D → R Hd := fnP 3 4 m_unfolded_2
/-- slots: 0:box 1:many 2:left 3:found 4:k -/
noncomputable def b__law_names_2_1 : SM := sAppend 3 (cPopAt 2 (cCallIO [(0, 0)] g__law_take (cCons (cOwn 0) (cCons (cCall lenD (cCons (cOwn 2) (cNil))) (cNil)))))
noncomputable def m__law_names_2 : SM := sSeq (sOwn [0, 2, 3] [0, 2] (cRg1 true (cVar 1)) 2) (sSeq (sOwn [0, 2, 3] [0, 2] (cLst (cNil)) 3) (sSeq (sFor [0] (cRange rng1D (cCons (cVar 1) (cNil))) (tmName 4) (b__law_names_2_1) [4]) (sRet (cCall tupleFD (cCons (cOwn 3) (cNil))))))
noncomputable def g__law_names_2 : Fn := fnD 2 5 [0] m__law_names_2
/-- slots: 0:net 1:k 2:found -/
noncomputable def w__law_small_1 : TM := tbAsg (cXcall g_folded_2 (cCons (cVar 0) (cCons (cVar 1) (cNil)))) 2
noncomputable def h__law_small_1 : SM := sAsg (cC .non) (tmName 2)
noncomputable def m__law_small : SM := sSeq (sAsg (cC .non) (tmName 2)) (sSeq (sTryN ["Hears", "NoSwitch", "TooMany"] w__law_small_1 h__law_small_1) (sRet (cVar 2)))
noncomputable def g__law_small : List D → R Hd := fnP 2 3 m__law_small
/-- slots: 0:script 1:k 2:box 3:many 4:net 5:rests 6:name 7:small 8:other 9:names 10:anew 11:behind 12:old 13:stand -/
noncomputable def e_law_k95_1 : EM := cCallIO [(0, 2)] g__law_rule_3 (cCons (cOwn 2) (cCons (cVar 3) (cNil)))
noncomputable def e_law_k95_2 : EM := cCallF g_unfolded_2 (cCons (cVar 4) (cCons (cVar 6) (cCons (cVar 13) (cNil))))
noncomputable def b_law_k95_1 : SM := sSeq (sAsg (cCallF g__law_small (cCons (cVar 4) (cCons (cVar 6) (cNil)))) (tmName 7)) (sIf (cBl (cOp isNotD (cVar 7) (cC .non))) (sIf (cBl (cOp neD (cCall sortD (cCons (cComp (cIter (cCallF g_rests_of (cCons (cVar 7) (cNil)))) (tmName 13) (cYes) (e_law_k95_2) [13]) (cNil))) (cVar 5))) (sRet (cC (.bl false))) (sSkip)) (sSkip))
noncomputable def e_law_k95_3 : EM := cCallF g__law_change (cCons (cVar 13) (cCons (cVar 6) (cNil)))
noncomputable def e_law_k95_4 : EM := cIx (cVar 13) (cVar 12)
noncomputable def e_law_k95_5 : EM := cCall tupleD (cCons (cComp (cIter (cVar 9)) (tmName 12) (cYes) (e_law_k95_4) [12]) (cNil))
noncomputable def e_law_k95_6 : EM := cIndexF (cVar 9) (cVar 12)
noncomputable def b_law_k95_2 : SM := sSeq (sOwn [2] [2] (cCallF g__law_box (cCons (cVar 0) (cCons (cVar 1) (cNil)))) 2) (sSeq (sAsg (cOp addD (cC (.int 2)) (cCallIO [(0, 2)] g__law_take (cCons (cOwn 2) (cCons (cC (.int 5)) (cNil))))) (tmName 3)) (sSeq (sAsg (cCall tupleD (cCons (cComp (cRange rng1D (cCons (cVar 3) (cNil))) (tmName 6) (cYes) (e_law_k95_1) [6]) (cNil))) (tmName 4)) (sSeq (sAsg (cCallF g_rests_of (cCons (cVar 4) (cNil))) (tmName 5)) (sSeq (sFor [] (cRange rng1D (cCons (cVar 3) (cNil))) (tmName 6) (b_law_k95_1) [6, 7]) (sSeq (sAsg (cCallIO [(0, 2)] g__law_take (cCons (cOwn 2) (cCons (cVar 3) (cNil)))) (tmName 6)) (sSeq (sAsg (cCallF g_flipped (cCons (cVar 4) (cCons (cVar 6) (cNil)))) (tmName 8)) (sSeq (sIf (cOrT (cBl (cOp neD (cCall sortD (cCons (cComp (cIter (cVar 5)) (tmName 13) (cYes) (e_law_k95_3) [13]) (cNil))) (cCallF g_rests_of (cCons (cVar 8) (cNil))))) (cBl (cOp neD (cCallF g_flipped (cCons (cVar 8) (cCons (cVar 6) (cNil)))) (cVar 4)))) (sRet (cC (.bl false))) (sSkip)) (sSeq (sAsg (cCallIO [(0, 2)] g__law_names_2 (cCons (cOwn 2) (cCons (cVar 3) (cNil)))) (tmName 9)) (sSeq (sAsg (cCallF g_named_anew_2 (cCons (cVar 4) (cCons (cVar 9) (cNil)))) (tmName 10)) (sSeq (sIf (cBl (cOp neD (cCall sortD (cCons (cComp (cIter (cVar 5)) (tmName 13) (cYes) (e_law_k95_5) [13]) (cNil))) (cCallF g_rests_of (cCons (cVar 10) (cNil))))) (sRet (cC (.bl false))) (sSkip)) (sSeq (sAsg (cCall tupleFD (cCons (cComp (cRange rng1D (cCons (cVar 3) (cNil))) (tmName 12) (cYes) (e_law_k95_6) [12]) (cNil))) (tmName 11)) (sIf (cOrT (cBl (cOp neD (cCallF g_named_anew_2 (cCons (cVar 10) (cCons (cVar 11) (cNil)))) (cVar 4))) (cBl (cOp neD (cCallF g_rests_of (cCons (cCallF g_slim_2 (cCons (cVar 4) (cNil))) (cNil))) (cVar 5)))) (sRet (cC (.bl false))) (sSkip)))))))))))))
noncomputable def m_law_k95 : SM := sSeq (sFor [] (cRange rng1D (cCons (cCall max2D (cCons (cC (.int 1)) (cCons (cCall min2D (cCons (cCall lenD (cCons (cVar 0) (cNil))) (cCons (cC (.int 3)) (cNil)))) (cNil)))) (cNil))) (tmName 1) (b_law_k95_2) [1, 2, 3, 4, 5, 6, 7, 8, 9, 10, 11]) (sRet (cC (.bl true)))
noncomputable def g_law_k95 : List D → R Hd := fnP 1 14 m_law_k95
end C

set_option Elab.async false
set_option linter.all false
set_option maxRecDepth 100000
namespace H
open PySem PySem.Spec PyProof.Rows L2 Y
abbrev ti (xs : List Int) : D := .tup (xs.map D.int)
abbrev dRule (r : List Int × List Int) : D := .tup [ti r.1, ti r.2]
abbrev dNet (ns : List (List Int × List Int)) : D := .tup (ns.map dRule)
@[simp] theorem is_whole_int {i : Int} : C.g_is_whole [.int i] = .ok (.fr (.bl true)) := by
  simp [C.g_is_whole, C.m_is_whole, e_fnP, noDit, Y.isInt, Y.isBl]
@[simp] theorem is_upto_int {i m : Int} : C.g_is_upto [.int i, .int m] = .ok (.fr (.bl (decide (0 ≤ i ∧ i < m)))) := by
  simp [C.g_is_upto, C.m_is_upto, e_fnP, is_whole_int]
  by_cases h : 0 ≤ i <;> simp [h]
def placeI (xs : List Int) : Int := xs.foldl (fun p b => 2 * p + b) 0
theorem place_of_lst {xs : List Int} (hx : xs.length ≤ 16777216) : C.g_place_of [.lst (xs.map D.int)] = .ok (.vl (.int (placeI xs))) := by
  have h := for_run (tm := tmName 2) (body := C.b_place_of_1) (vs := [2]) (ws := []) D.int (fun p : Int => [some (D.lst (xs.map D.int)), some (.int p), none]) (fun p x => 2 * p + x) (fun _ => True) xs 0 trivial (fun p x _ hx => by
    simp [turnF, C.b_place_of_1, mulOk_l])
  simp [C.g_place_of, C.m_place_of, e_fnP, szOk_of hx, h.1, placeI]
/-- all bits -/
theorem are_bits_ti {xs : List Int} {m : Int} (hx : xs.length ≤ 16777216) (hb : ∀ x ∈ xs, 0 ≤ x ∧ x < 2) (hm : (xs.length : Int) = m) : C.g_are_bits [ti xs, .int m] = .ok (.fr (.bl true)) := by
  have h := comp_map (tm := tmName 2) (t := cYes) (e := C.e_are_bits_1) (vs := [2]) (ws := []) (ρ := [some (ti xs), some (.int m), none]) D.int (fun x => D.bl (decide (0 ≤ x) && decide (x < 2))) xs (fun x _ => by
    simp [turnC, C.e_are_bits_1])
  have h2 : xs.map (fun x => D.bl (decide (0 ≤ x) && decide (x < 2))) = (xs.map fun x => decide (0 ≤ x) && decide (x < 2)).map D.bl := by simp
  simp [C.g_are_bits, C.m_are_bits, e_fnP, noDit, Y.isTup, szOk_of hx, h, hm]
  rw [h2, d_all]
  simp
  intro x hx
  exact hb x hx
theorem is_stand_ok {n : List D} {xs : List Int} (hx : xs.length ≤ 16777216) (hb : ∀ x ∈ xs, 0 ≤ x ∧ x < 2) (hl : xs.length = n.length) : C.g_is_stand [.tup n, ti xs] = .ok (.fr (.bl true)) := by
  have := are_bits_ti (m := n.length) hx hb (by omega)
  simp [C.g_is_stand, C.m_is_stand, e_fnP, this]
theorem look_at_stand_ok {n : List D} {xs : List Int} (hx : xs.length ≤ 16777216) (hb : ∀ x ∈ xs, 0 ≤ x ∧ x < 2) (hl : xs.length = n.length) : C.g_look_at_stand [.tup n, ti xs] = .ok (.fr .non) := by
  simp [C.g_look_at_stand, C.m_look_at_stand, e_fnP, is_stand_ok hx hb hl]
end H

set_option Elab.async false
set_option linter.all false
set_option maxRecDepth 100000
namespace H
open PySem PySem.Spec PyProof.Rows L2 Y
theorem atI_nat' {α : Type} {xs : List α} {k : Nat} (h : k < xs.length) : atI xs (k : Int) = some xs[k] := atI_of (j := k) rfl (List.getElem?_eq_getElem h)
theorem atI_map {α β : Type} {f : α → β} {xs : List α} {i : Int} : atI (xs.map f) i = (atI xs i).map f := by
  unfold atI
  rw [List.length_map]
  cases ixN xs.length i with
  | none => rfl
  | some j => simp
theorem atI_int {xs : List Int} {i : Int} (h0 : 0 ≤ i) (h : i < xs.length) : atI xs i = some (xs.getD i.toNat 0) := by
  rw [atI_lt h0 h, List.getD_eq_getElem?_getD, List.getElem?_eq_getElem (by omega)]
  rfl
theorem atI_mapI {xs : List Int} {i : Int} (h0 : 0 ≤ i) (h : i < xs.length) : atI (xs.map D.int) i = some (.int (xs.getD i.toNat 0)) := by rw [atI_map, atI_int h0 h]; rfl
theorem place_go : ∀ {xs : List Int} {p : Int}, 0 ≤ p → (∀ x ∈ xs, 0 ≤ x ∧ x < 2) → 0 ≤ xs.foldl (fun p b => 2 * p + b) p ∧ xs.foldl (fun p b => 2 * p + b) p < (p + 1) * 2 ^ xs.length
  | [], p, hp, _ => by simp; omega
  | x :: xs, p, hp, h => by
    have hx := h x (by simp)
    have ih := place_go (xs := xs) (p := 2 * p + x) (by omega) fun y hy => h y (by simp [hy])
    rw [List.foldl_cons, List.length_cons, Int.pow_succ]
    refine ⟨ih.1, Int.lt_of_lt_of_le ih.2 ?_⟩
    have e : (p + 1) * (2 ^ xs.length * 2) = (2 * p + 2) * 2 ^ xs.length := by
      rw [Int.mul_comm (2 ^ xs.length) 2, ← Int.mul_assoc]
      congr 1
      omega
    rw [e]
    exact Int.mul_le_mul_of_nonneg_right (by omega) (Int.pow_nonneg (by omega))
theorem placeI_lt {xs : List Int} (h : ∀ x ∈ xs, 0 ≤ x ∧ x < 2) : 0 ≤ placeI xs ∧ placeI xs < 2 ^ xs.length := by
  have := place_go (xs := xs) (p := 0) (by omega) h
  simpa [placeI] using this
abbrev RuleT := List Int × List Int
structure GoodNet (ns : List RuleT) : Prop where
  sz : ns.length ≤ 100
  ear : ∀ r ∈ ns, r.1.length ≤ 100 ∧ (∀ e ∈ r.1, 0 ≤ e ∧ e < ns.length) ∧ r.2.length = 2 ^ r.1.length
structure IsSt (m : Nat) (st : List Int) : Prop where
  len : st.length = m
  bit : ∀ x ∈ st, 0 ≤ x ∧ x < 2
def tellI (r : RuleT) (st : List Int) : Int := r.2.getD (placeI (r.1.map fun e => st.getD e.toNat 0)).toNat 0
def oughtI (ns : List RuleT) (st : List Int) (k : Nat) : Int := tellI (ns.getD k ([], [])) st
theorem getD_bit {st : List Int} (h : ∀ x ∈ st, 0 ≤ x ∧ x < 2) (k : Nat) : 0 ≤ st.getD k 0 ∧ st.getD k 0 < 2 := by
  rw [List.getD_eq_getElem?_getD]
  cases e : st[k]? with
  | none => simp
  | some x => exact h x (List.mem_of_getElem? e)
theorem IsSt.get {m : Nat} {st : List Int} (h : IsSt m st) (k : Nat) : 0 ≤ st.getD k 0 ∧ st.getD k 0 < 2 := getD_bit h.bit k
theorem read_lt {m : Nat} {st : List Int} (h : IsSt m st) (es : List Int) : 0 ≤ placeI (es.map fun e => st.getD e.toNat 0) ∧ placeI (es.map fun e => st.getD e.toNat 0) < 2 ^ es.length := by
  have := placeI_lt (xs := es.map fun e => st.getD e.toNat 0) fun x hx => by
    obtain ⟨e, _, rfl⟩ := List.mem_map.mp hx
    exact h.get _
  rwa [List.length_map] at this
theorem net_at {ns : List RuleT} {k : Nat} (h : k < ns.length) : atI (ns.map dRule) (k : Int) = some (dRule (ns.getD k ([], []))) := by
  rw [atI_map, atI_nat' h, List.getD_eq_getElem?_getD, List.getElem?_eq_getElem h]
  rfl
theorem GoodNet.at {ns : List RuleT} (g : GoodNet ns) {k : Nat} (h : k < ns.length) : (ns.getD k ([], [])).1.length ≤ 100 ∧ (∀ e ∈ (ns.getD k ([], [])).1, 0 ≤ e ∧ e < ns.length) ∧ (ns.getD k ([], [])).2.length = 2 ^ (ns.getD k ([], [])).1.length := by
  rw [List.getD_eq_getElem?_getD, List.getElem?_eq_getElem h]
  exact g.ear _ (List.getElem_mem h)
theorem ought_ok {ns : List RuleT} {st : List Int} {k : Nat} (g : GoodNet ns) (hs : IsSt ns.length st) (hk : k < ns.length) : C.g_ought [dNet ns, ti st, .int k] = .ok (.vl (.int (oughtI ns st k))) := by
  obtain ⟨h1, h2, h3⟩ := g.at hk
  have h := comp_map (tm := tmName 5) (t := cYes) (e := C.e_ought_1) (vs := [5]) (ws := []) (ρ := [some (dNet ns), some (ti st), some (.int k), some (ti (ns.getD k ([], [])).1), some (ti (ns.getD k ([], [])).2), none]) D.int (fun e => D.int (st.getD e.toNat 0)) (ns.getD k ([], [])).1 (fun e he => by
    have := h2 e he
    simp [turnC, C.e_ought_1, atI_mapI this.1 (by rw [hs.len]; exact this.2)])
  have h4 := place_of_lst (xs := (ns.getD k ([], [])).1.map fun e => st.getD e.toNat 0) (by rw [List.length_map]; omega)
  rw [List.map_map] at h4
  have h5 := read_lt hs (ns.getD k ([], [])).1
  have h6 := atI_mapI (xs := (ns.getD k ([], [])).2) h5.1 (by rw [h3]; exact_mod_cast h5.2)
  simp only [Function.comp_def] at h4
  simp [C.g_ought, C.m_ought, e_fnP, net_at hk, szOk_of (show (ns.getD k ([], [])).1.length ≤ 16777216 by omega), h, h4, h6, -List.getD_eq_getElem?_getD]
  rfl
/-- the switches that are not as their rules tell -/
def wrongI (ns : List RuleT) (st : List Int) : List Nat := (List.range ns.length).filter fun k => !decide (oughtI ns st k = st.getD k 0)
abbrev ln' (xs : List Nat) : D := .lst (xs.map fun k => D.int (k : Nat))
theorem wrong_ones_ok {ns : List RuleT} {st : List Int} (g : GoodNet ns) (hs : IsSt ns.length st) : C.g_wrong_ones [dNet ns, ti st] = .ok (.fr (ln' (wrongI ns st))) := by
  have hz := g.sz
  have h : cCompL (tmName 2) C.t_wrong_ones_1 C.e_wrong_ones_1 [2] [] ((List.range ns.length).map fun k : Nat => D.int (k : Nat)) [some (dNet ns), some (ti st), none] = .ok ((wrongI ns st).map fun k => D.int (k : Nat), [some (dNet ns), some (ti st), none]) :=
    comp_filter (fun k : Nat => D.int (k : Nat)) (fun k => !decide (oughtI ns st k = st.getD k 0)) (fun k => D.int (k : Nat)) (List.range ns.length) (fun k hk => by
      have hk := List.mem_range.mp hk
      have a := atI_mapI (xs := st) (i := k) (by omega) (by rw [hs.len]; omega)
      simp only [turnC, C.t_wrong_ones_1, C.e_wrong_ones_1, Int.toNat_natCast] at a ⊢
      simp [ought_ok g hs hk, a, -List.getD_eq_getElem?_getD]
      by_cases c : oughtI ns st k = st.getD k 0 <;> simp [c, -List.getD_eq_getElem?_getD])
  have l := look_at_stand_ok (n := ns.map dRule) (xs := st) (by rw [hs.len]; omega) hs.bit (by rw [hs.len, List.length_map])
  have hr : rngOk ns.length = true := rngOk_of (by omega) (by omega)
  have hz2 : szOk ns.length = true := szOk_of (by omega)
  simp [C.g_wrong_ones, C.m_wrong_ones, e_fnP, l, hr, hz2, h]
def stands : Nat → List (List Int)
  | 0 => [[]]
  | m + 1 => (stands m).map (0 :: ·) ++ (stands m).map (1 :: ·)
theorem stands_len : ∀ m, (stands m).length = 2 ^ m
  | 0 => rfl
  | m + 1 => by simp [stands, stands_len m, Nat.pow_succ]; omega
theorem stands_st : ∀ {m : Nat} {st : List Int}, st ∈ stands m → IsSt m st
  | 0, st, h => by simp [stands] at h; subst h; exact ⟨rfl, by simp⟩
  | m + 1, st, h => by
    simp only [stands, List.mem_append, List.mem_map] at h
    rcases h with ⟨s, h, rfl⟩ | ⟨s, h, rfl⟩
    · exact ⟨by simp [(stands_st h).len], by simpa using (stands_st h).bit⟩
    · exact ⟨by simp [(stands_st h).len], by simpa using (stands_st h).bit⟩
abbrev lti (xs : List (List Int)) : D := .lst (xs.map ti)
theorem stands_of_ok {m : Nat} (hm : m ≤ 20) : C.g_stands_of [.int m] = .ok (.vl (lti (stands m))) := by
  have hp : ∀ k, k ≤ 20 → 2 ^ k ≤ 1048576 := fun k hk => Nat.pow_le_pow_right (by omega) hk
  have h := for_rng (tm := tmName 2) (body := C.b_stands_of_1) (vs := [2]) (ws := []) (n := m) (fun k : Nat => D.int (k : Nat)) (fun k => [some (.int m), some (lti (stands k)), none, none]) (fun i hi => by
    have hz := hp i (by omega)
    have hz2 := hp (i + 1) (by omega)
    have c1 : cCompL (tmName 3) cYes C.e_stands_of_1 [3] [] ((stands i).map ti) [some (.int m), some (lti (stands i)), some (.int (i : Nat)), none] = .ok (((stands i).map fun s => ti (0 :: s)), [some (.int m), some (lti (stands i)), some (.int (i : Nat)), none]) :=
      comp_map ti (fun s => ti (0 :: s)) (stands i) (fun s hs => by
        have := (stands_st hs).len
        simp [turnC, C.e_stands_of_1, szOk_of (show 1 + s.length ≤ 16777216 by omega)])
    have c2 : cCompL (tmName 3) cYes C.e_stands_of_2 [3] [] ((stands i).map ti) [some (.int m), some (lti (stands i)), some (.int (i : Nat)), none] = .ok (((stands i).map fun s => ti (1 :: s)), [some (.int m), some (lti (stands i)), some (.int (i : Nat)), none]) :=
      comp_map ti (fun s => ti (1 :: s)) (stands i) (fun s hs => by
        have := (stands_st hs).len
        simp [turnC, C.e_stands_of_2, szOk_of (show 1 + s.length ≤ 16777216 by omega)])
    have hl := stands_len i
    have z1 : szOk (stands i).length = true := szOk_of (by omega)
    have z2 : szOk ((stands i).length + (stands i).length) = true := szOk_of (by rw [Nat.pow_succ] at hz2; omega)
    refine ⟨by simp, ?_⟩
    simp only [turnF, C.b_stands_of_1]
    simp [c1, c2, z1, z2, stands, Function.comp_def])
  have hr : rngOk m = true := rngOk_of (by omega) (by omega)
  have hz2 : szOk m = true := szOk_of (by omega)
  have h : forL (tmName 2) C.b_stands_of_1 [2] [] ((List.range m).map fun k : Nat => D.int (k : Nat)) [some (.int m), some (.lst [.tup []]), none, none] = _ := h
  simp [C.g_stands_of, C.m_stands_of, e_fnP, hr, hz2, h]
def restsI (ns : List RuleT) : List (List Int) := (stands ns.length).filter fun st => (wrongI ns st).isEmpty
theorem fit_ln {n : Nat} {xs : List Nat} : Fit (n + 1) (ln' xs) := fun d h => by
  obtain ⟨x, _, rfl⟩ := List.mem_map.mp h
  exact fit_int
theorem fit_nil {n : Nat} : Fit (n + 1) (.lst []) := by
  unfold Fit
  intro d h
  cases h
theorem eqPs_nil {xs : List D} : eqPs xs [] = xs.isEmpty := by cases xs <;> rfl
theorem rests_of_ok {ns : List RuleT} (g : GoodNet ns) (hl : ns.length ≤ 20) : C.g_rests_of [dNet ns] = .ok (.fr (lti (restsI ns))) := by
  have h : cCompL (tmName 1) C.t_rests_of_1 C.e_rests_of_1 [1] [] ((stands ns.length).map ti) [some (dNet ns), none] = .ok ((restsI ns).map ti, [some (dNet ns), none]) :=
    comp_filter ti (fun st => (wrongI ns st).isEmpty) ti (stands ns.length) (fun st hs => by
      have e : eqD (ln' (wrongI ns st)) (.lst []) = .ok (.bl (wrongI ns st).isEmpty) := by
        rw [eqD_of (n := 2) fit_ln fit_nil, eqP_lst, eqPs_nil]; simp
      simp only [turnC, C.t_rests_of_1, C.e_rests_of_1]
      simp [wrong_ones_ok g (stands_st hs), e]
      split <;> rfl)
  have hz : szOk (stands ns.length).length = true := szOk_of (by
    rw [stands_len]
    exact Nat.le_trans (Nat.pow_le_pow_right (by omega) hl) (by omega))
  simp [C.g_rests_of, C.m_rests_of, e_fnP, stands_of_ok hl, h, hz]
end H

set_option Elab.async false
set_option linter.all false
set_option maxRecDepth 100000
set_option exponentiation.threshold 300
namespace H
open PySem PySem.Spec PyProof.Rows L2 Y
def cellI (ns : List Int) (k : Nat) : Int := if k < ns.length then ns.getD k 0 else 6151 * k + 29
def isOk (r : R Hd) (d : D) : Prop := r = .ok (.fr d) ∨ r = .ok (.vl d)
theorem cell_ok {ns : List Int} {k : Nat} : isOk (C.g__law_cell [.arg ns, .int k]) (.int (cellI ns k)) := by
  unfold cellI
  by_cases h : k < ns.length
  · right
    have a := atI_int (xs := ns) (i := k) (by omega) (by omega)
    simp only [Int.toNat_natCast] at a
    simp [C.g__law_cell, C.m__law_cell, e_fnP, h, a, -List.getD_eq_getElem?_getD]
  · left
    simp [C.g__law_cell, C.m__law_cell, e_fnP, h, mulOk_l]
/-- numbers that the machine bears as factors -/
def Big (n : Nat) (z : Int) : Prop := z.natAbs < 2 ^ n
theorem Big.mul {a b : Int} {n m : Nat} (h : Big n a) (h2 : Big m b) (hn : n < 67108000) (hm : m < 67108000) : mulOk a b = true := by
  have l : ∀ {z : Int} {n : Nat}, Big n z → n < 67108000 → z.natAbs.log2 < 67108856 := fun {z n} h hn => by
    by_cases e : z.natAbs = 0
    · rw [e]; simp
    · exact Nat.lt_of_lt_of_le ((Nat.log2_lt e).mpr h) (by omega)
  have e : (2 : Nat) ^ 26 - 8 = 67108856 := by decide
  unfold mulOk
  rw [e, decide_eq_true (p := a.natAbs.log2 < 67108856 ∧ b.natAbs.log2 < 67108856) ⟨l h hn, l h2 hm⟩]
  simp
theorem Big.add {a b : Int} {n : Nat} (h : Big n a) (h2 : Big n b) : Big (n + 1) (a + b) := by
  unfold Big at *
  rw [Nat.pow_succ]
  have := Int.natAbs_add_le a b
  omega
theorem Big.times {a b : Int} {n m : Nat} (h : Big n a) (h2 : Big m b) : Big (n + m) (a * b) := by
  unfold Big at *
  rw [Int.natAbs_mul, Nat.pow_add]
  exact Nat.mul_lt_mul'' h h2
theorem Big.up {a : Int} {n m : Nat} (h : Big n a) (hm : n ≤ m) : Big m a := Nat.lt_of_lt_of_le h (Nat.pow_le_pow_right (by omega) hm)
theorem big64 {a : Int} (h : a.natAbs < 18446744073709551616) : Big 64 a := h
/-- a script's numbers are not too great -/
theorem bits_big {z : Int} (h : Builtin.Int.intBits z ≤ 1048576) : Big 1048576 z := by
  unfold Builtin.Int.intBits at h
  unfold Big
  split at h
  · rename_i e
    have : z.natAbs = 0 := by simpa using e
    rw [this]
    exact Nat.pow_pos (by omega)
  · have := Nat.lt_log2_self (n := z.natAbs)
    exact Nat.lt_of_lt_of_le this (Nat.pow_le_pow_right (by omega) h)
theorem cell_big {ns : List Int} {k : Nat} (hb : ∀ z ∈ ns, Builtin.Int.intBits z ≤ 1048576) (hk : k < 1000000) : Big 1048576 (cellI ns k) := by
  unfold cellI
  split
  · rename_i h
    rw [List.getD_eq_getElem?_getD, List.getElem?_eq_getElem h]
    exact bits_big (hb _ (List.getElem_mem h))
  · exact (big64 (by omega)).up (by omega)
def mixI (c k : Int) : Int :=
  let n := (c + 1) * 40692 + 104729 * k
  let m := n * n % 2147483399 + k
  m * (m + 31) % 2147483563
theorem mix_ok {c : Int} {k : Nat} (hc : Big 1048576 c) (hk : k < 1000000) : C.g__law_mix [.int c, .int k] = .ok (.fr (.int (mixI c k))) := by
  have b1 : Big 1048700 ((c + 1) * 40692 + 104729 * k) := by
    have h1 : Big 1048577 (c + 1) := Big.add hc ((big64 (a := 1) (by omega)).up (by omega))
    have h2 : Big (1048577 + 64) ((c + 1) * 40692) := h1.times (big64 (by omega))
    have h3 : Big 64 (104729 * (k : Int)) := big64 (by omega)
    exact (h2.add (h3.up (by omega))).up (by omega)
  have b2 := Big.mul b1 b1 (by omega) (by omega)
  have p : 0 ≤ ((c + 1) * 40692 + 104729 * (k : Int)) * ((c + 1) * 40692 + 104729 * k) % 2147483399 ∧ ((c + 1) * 40692 + 104729 * (k : Int)) * ((c + 1) * 40692 + 104729 * k) % 2147483399 < 2147483399 := ⟨Int.emod_nonneg _ (by omega), Int.emod_lt_of_pos _ (by omega)⟩
  have b3 : mulOk (((c + 1) * 40692 + 104729 * (k : Int)) * ((c + 1) * 40692 + 104729 * k) % 2147483399 + k) (((c + 1) * 40692 + 104729 * (k : Int)) * ((c + 1) * 40692 + 104729 * k) % 2147483399 + k + 31) = true := mulOk_l (by omega)
  have b4 : mulOk (c + 1) 40692 = true := mulOk_r (by decide)
  have b5 : mulOk 104729 k = true := mulOk_l (by decide)
  simp [C.g__law_mix, C.m__law_mix, e_fnP, b2, b3, b4, b5, mixI]
def boxN (c : Int) (j : Nat) : Int := (List.range j).foldl (fun p j => p * 2147483647 + mixI c (j : Nat)) 0
theorem boxN_succ {c : Int} {j : Nat} : boxN c (j + 1) = boxN c j * 2147483647 + mixI c j := by
  unfold boxN
  rw [List.range_succ, List.foldl_append]
  rfl
theorem box_ok {ns : List Int} {k : Nat} (hb : ∀ z ∈ ns, Builtin.Int.intBits z ≤ 1048576) (hk : k < 1000) : ∃ b : Int, C.g__law_box [.arg ns, .int k] = .ok (.fr (.lst [.int b])) := by
  have hc := cell_big (ns := ns) (k := k) hb (by omega)
  have h : forL (tmName 4) C.b__law_box_1 [4] [] ((List.range 24).map fun j : Nat => D.int (j : Nat)) [some (.arg ns), some (.int k), some (.int (cellI ns k)), some (.int 0), none] = .ok (.nx, [some (.arg ns), some (.int k), some (.int (cellI ns k)), some (.int (boxN (cellI ns k) 24)), none]) :=
    for_rng (fun j : Nat => D.int (j : Nat)) (fun j => [some (.arg ns), some (.int k), some (.int (cellI ns k)), some (.int (boxN (cellI ns k) j)), none]) (fun j hj => by
      refine ⟨by simp, ?_⟩
      have m := mix_ok (k := j) hc (by omega)
      have b : ∀ p : Int, mulOk p 2147483647 = true := fun p => mulOk_r (by decide)
      simp only [turnF, C.b__law_box_1]
      simp [m, b, boxN_succ])
  have hr : rngOk 24 = true := by decide
  have hz : szOk 24 = true := by decide
  have r24 : rng1D [.int 24] = .ok ((List.range 24).map fun j : Nat => D.int (j : Nat)) := by rw [d_rng1, if_pos hr]; rfl
  have z24 : szOk ((List.range 24).map fun j : Nat => D.int (j : Nat)).length = true := by simp [hz]
  by_cases e : cellI ns k % 2 = 0
  · refine ⟨cellI ns k / 2, ?_⟩
    rcases cell_ok (ns := ns) (k := k) with c | c <;> simp [C.g__law_box, C.m__law_box, e_fnP, c, e, smallPos_of]
  · refine ⟨boxN (cellI ns k) 24, ?_⟩
    rcases cell_ok (ns := ns) (k := k) with c | c <;> simp only [C.g__law_box, C.m__law_box] <;> generalize C.b__law_box_1 = B at h ⊢ <;> generalize (List.range 24).map (fun j : Nat => D.int (j : Nat)) = L24 at h r24 z24 <;> simp [e_fnP, c, e, r24, z24, h, -d_rng1]
theorem take_ok {n m : Int} (h0 : 0 < m) (h1 : m < 1073741824) : C.g__law_take [.lst [.int n], .int m] = .ok (.vl (.int (n % m)), [some (.lst [.int (n / m)]), none]) := by
  have a : atI [D.int n] 0 = some (.int n) := rfl
  have b : ixN 1 0 = some 0 := rfl
  simp [C.g__law_take, C.m__law_take, e_fnD, smallPos_of h0 h1, a, b]
theorem shl1 {k : Nat} (h : k ≤ 1000000) : shlD (.int 1) (.int (k : Nat)) = .ok (.int ((2 ^ k : Nat) : Int)) := by
  rw [d_shl, if_pos (shOk_of (by omega) (by omega) (by decide))]
  simp
theorem cut_hi {ds : List D} {k : Nat} : Y.cutD ds none (some (k : Int)) = ds.take k := by
  unfold Y.cutD
  rw [HT.sIx_none, HT.sIx_nat]
  simp
/-- a rule for m switches -/
structure RuleOk (m : Nat) (r : RuleT) : Prop where
  len : r.1.length ≤ 4
  sub : ∃ es : List Nat, r.1 = es.map (fun j : Nat => (j : Int)) ∧ es.Sublist (List.range m)
  tab : r.2.length = 2 ^ r.1.length
  bit : ∀ x ∈ r.2, 0 ≤ x ∧ x < 2
theorem bit1 {x : Int} : 0 ≤ Builtin.bitAnd x 1 ∧ Builtin.bitAnd x 1 < 2 := by
  have := Bits.bit_at (x := x) 0
  simp at this
  rw [this]
  omega
end H

set_option Elab.async false
set_option linter.all false
set_option maxRecDepth 100000
namespace H
open PySem PySem.Spec PyProof.Rows L2 Y
structure NetOk (ns : List RuleT) (most : Nat) : Prop where
  pos : 1 ≤ ns.length
  le : ns.length ≤ most
  rule : ∀ r ∈ ns, RuleOk ns.length r
theorem NetOk.good {ns : List RuleT} {most : Nat} (h : NetOk ns most) (hm : most ≤ 100) : GoodNet ns where
  sz := Nat.le_trans h.le hm
  ear := fun r hr => by
    have k := h.rule r hr
    refine ⟨by have := k.len; omega, fun e he => ?_, k.tab⟩
    obtain ⟨es, e1, sub⟩ := k.sub
    rw [e1] at he
    obtain ⟨j, hj, rfl⟩ := List.mem_map.mp he
    have := List.mem_range.mp (sub.subset hj)
    omega
theorem fit_lti {n : Nat} {xs : List (List Int)} : Fit (n + 2) (lti xs) := fun d h => by
  obtain ⟨x, _, rfl⟩ := List.mem_map.mp h
  exact fit_tupI
end H

set_option Elab.async false
set_option linter.all false
set_option maxRecDepth 100000
namespace H
open PySem PySem.Spec PyProof.Rows L2 Y
theorem cut_to {ds : List D} {k : Nat} : Y.cutD ds none (some (k : Int)) = ds.take k := cut_hi
theorem cut_from {ds : List D} {k : Nat} : Y.cutD ds (some (k : Int)) none = ds.drop k := by
  unfold Y.cutD
  rw [HT.sIx_none, HT.sIx_nat]
  by_cases h : k ≤ ds.length
  · rw [Nat.min_eq_left h, List.take_of_length_le (by simp)]
  · rw [Nat.min_eq_right (by omega), List.drop_of_length_le (Nat.le_refl _), List.drop_of_length_le (by omega)]
    simp
def withI (st : List Int) (k : Nat) (b : Int) : List Int := st.take k ++ b :: st.drop (k + 1)
theorem look_at_switch_ok {n : List D} {k : Nat} (hk : k < n.length) : C.g_look_at_switch [.tup n, .int k] = .ok (.fr .non) := by
  simp only [C.g_look_at_switch, C.m_look_at_switch]
  simp [e_fnP, hk]
end H

set_option Elab.async false
set_option linter.all false
set_option maxRecDepth 100000
namespace H
open PySem PySem.Spec PyProof.Rows L2 Y
abbrev tn (b : List Nat) : D := .tup (b.map fun k : Nat => D.int (k : Nat))
theorem ixN_nat {n k : Nat} (h : k < n) : ixN n (k : Int) = some k := by
  unfold ixN
  rw [if_pos (by omega), if_pos (by omega)]
  rfl
def TabBits (ns : List RuleT) : Prop := ∀ r ∈ ns, ∀ x ∈ r.2, 0 ≤ x ∧ x < 2
theorem NetOk.tab {ns : List RuleT} {most : Nat} (h : NetOk ns most) : TabBits ns := fun r hr => (h.rule r hr).bit
end H

set_option Elab.async false
set_option linter.all false
set_option maxRecDepth 100000
namespace H
open PySem PySem.Spec PyProof.Rows L2 Y
end H

set_option Elab.async false
set_option linter.all false
set_option maxRecDepth 100000
namespace H
open PySem PySem.Spec PyProof.Rows L2 Y
theorem pairsD_map {α β : Type} {f : α → D} {g : β → D} : ∀ {xs : List α} {ys : List β}, pairsD (xs.map f) (ys.map g) = (xs.zip ys).map fun p => .tup [f p.1, g p.2]
  | [], _ => by simp [pairsD]
  | _ :: _, [] => by simp [pairsD]
  | x :: xs, y :: ys => by simp [pairsD, pairsD_map (xs := xs) (ys := ys)]
structure OrdOk (m : Nat) (o : List (List Nat)) : Prop where
  ne : ∀ b ∈ o, b ≠ []
  sub : ∀ b ∈ o, b.Sublist (List.range m)
  perm : o.flatten.Perm (List.range m)
theorem OrdOk.len {m : Nat} {o : List (List Nat)} (h : OrdOk m o) : o.length ≤ m := by
  have : ∀ o : List (List Nat), (∀ b ∈ o, b ≠ []) → o.length ≤ o.flatten.length := fun o => by
    induction o with
    | nil => simp
    | cons b o ih =>
      intro h
      have h1 := h b (by simp)
      have h2 := ih fun c hc => h c (by simp [hc])
      have : 0 < b.length := List.length_pos_iff.mpr h1
      rw [List.flatten_cons, List.length_append, List.length_cons]
      omega
  have h2 := this o h.ne
  rw [h.perm.length_eq, List.length_range] at h2
  exact h2
theorem OrdOk.apart {m : Nat} {o : List (List Nat)} (h : OrdOk m o) : o.Pairwise (fun b c => ∀ k ∈ b, k ∉ c) := by
  have : o.flatten.Nodup := h.perm.nodup_iff.mpr List.nodup_range
  have := (List.pairwise_flatten.mp this).2
  exact this.imp fun h k hk z => h k hk k z rfl
end H

set_option Elab.async false
set_option linter.all false
set_option maxRecDepth 100000
namespace H
open PySem PySem.Spec PyProof.Rows L2 Y
@[simp] theorem neD_bl {a b : Bool} : neD (.bl a) (.bl b) = .ok (.bl (a != b)) := by
  rw [neD_of (n := 0) fit_bl fit_bl, eqP_bl]
  cases a <;> cases b <;> rfl
theorem OrdOk.turn {m : Nat} {o : List (List Nat)} (h : OrdOk m o) (w : Nat) : OrdOk m (o.drop w ++ o.take w) := by
  have p : (o.drop w ++ o.take w).Perm o := by
    have := List.perm_append_comm (l₁ := o.drop w) (l₂ := o.take w)
    rwa [List.take_append_drop] at this
  exact ⟨fun b hb => h.ne b (p.mem_iff.mp hb), fun b hb => h.sub b (p.mem_iff.mp hb), p.flatten.trans h.perm⟩
end H

set_option Elab.async false
set_option linter.all false
set_option maxRecDepth 100000
namespace H
open PySem PySem.Spec PyProof.Rows L2 Y
def blk (ks : List Int) (m j : Nat) : List Nat := (List.range m).filter fun k => decide (ks.getD k 0 = (j : Nat))
end H

set_option Elab.async false
set_option linter.all false
set_option maxRecDepth 100000
set_option exponentiation.threshold 300
namespace H
open PySem PySem.Spec PyProof.Rows L2 Y
abbrev tx (l : List Nat) : Str := ⟨l.toArray⟩
abbrev dt (l : List Nat) : D := .str (tx l)
end H

set_option Elab.async false
set_option linter.all false
set_option maxRecDepth 100000
set_option exponentiation.threshold 300
namespace H
open PySem PySem.Spec PyProof.Rows L2 Y
theorem mem_stands : ∀ {m : Nat} {st : List Int}, st ∈ stands m ↔ IsSt m st
  | 0, st => by
    constructor
    · exact stands_st
    · intro h
      have := h.len
      cases st with
      | nil => simp [stands]
      | cons => simp at this
  | m + 1, st => by
    constructor
    · exact stands_st
    · intro h
      cases st with
      | nil => have := h.len; simp at this
      | cons x st =>
        have hx := h.bit x (by simp)
        have hs : IsSt m st := ⟨by have := h.len; simpa using this, fun y hy => h.bit y (by simp [hy])⟩
        have : st ∈ stands m := mem_stands.mpr hs
        have e : x = 0 ∨ x = 1 := by omega
        rcases e with rfl | rfl <;> simp [stands, this]
theorem stands_lt : ∀ m, (stands m).Pairwise fun a b => ltL a b = true
  | 0 => by simp [stands]
  | m + 1 => by
    have ih := stands_lt m
    unfold stands
    rw [List.pairwise_append]
    refine ⟨?_, ?_, ?_⟩
    · rw [List.pairwise_map]; exact ih.imp fun h => by simpa [ltL] using h
    · rw [List.pairwise_map]; exact ih.imp fun h => by simpa [ltL] using h
    · intro a ha b hb
      obtain ⟨x, _, rfl⟩ := List.mem_map.mp ha
      obtain ⟨y, _, rfl⟩ := List.mem_map.mp hb
      simp [ltL]
theorem stands_nodup (m : Nat) : (stands m).Nodup := (stands_lt m).imp fun {a b} h e => by
  subst e
  rw [ltL_asym h] at h
  cases h
end H

set_option Elab.async false
set_option linter.all false
set_option maxRecDepth 100000
set_option exponentiation.threshold 300
namespace H
open PySem PySem.Spec PyProof.Rows L2 Y
/-- for over range(n), by what holds at each turn -/
theorem for_inx {tm : GM} {body : SM} {vs ws : List Nat} (F : Nat → D) (I : Nat → Y.Env → Prop) (n : Nat) (ρ : Y.Env) (h0 : I 0 ρ)
    (hs : ∀ i ρ, i < n → I i ρ → ∃ ρ', turnF tm body vs (F i) ρ = .ok (.nx, ρ') ∧ I (i + 1) ρ' ∧ ∀ w ∈ ws, ρ'[w]? = ρ[w]?) : ∃ ρ', forL tm body vs ws ((List.range n).map F) ρ = .ok (.nx, ρ') ∧ I n ρ' := by
  have : ∀ (k i : Nat) (ρ : Y.Env), i + k = n → I i ρ → ∃ ρ', forL tm body vs ws ((List.range' i k).map F) ρ = .ok (.nx, ρ') ∧ I n ρ' := by
    intro k
    induction k with
    | zero => intro i ρ e h; exact ⟨ρ, rfl, by rw [← e]; exact h⟩
    | succ k ih =>
      intro i ρ e h
      obtain ⟨ρ1, e1, h1, w1⟩ := hs i ρ (by omega) h
      obtain ⟨ρ2, e2, h2⟩ := ih (i + 1) ρ1 (by omega) h1
      rw [List.range'_succ, List.map_cons]
      exact ⟨ρ2, for_cons e1 w1 e2, h2⟩
  rw [List.range_eq_range']
  exact this n 0 ρ (by omega) h0
theorem sub_range {es : List Nat} {m : Nat} (h : es.Pairwise (· < ·)) (hm : ∀ x ∈ es, x < m) : es.Sublist (List.range m) := by
  have e : es = (List.range m).filter fun k => decide (k ∈ es) := by
    have hf : ((List.range m).filter fun k => decide (k ∈ es)).Pairwise (· < ·) := List.Pairwise.filter _ List.pairwise_lt_range
    refine List.Perm.eq_of_pairwise (le := fun a b : Nat => a < b) (fun a b _ _ h1 h2 => by omega) h hf ?_
    refine (List.perm_ext_iff_of_nodup (h.imp fun h => by omega) (hf.imp fun h => by omega)).mpr fun k => ?_
    rw [List.mem_filter, List.mem_range, decide_eq_true_eq]
    exact ⟨fun h => ⟨hm k h, h⟩, fun h => h.2⟩
  rw [e]
  exact List.filter_sublist
/-- whole numbers, none twice, sorted: a part of a range -/
theorem sort_sub {E : List Nat} {m : Nat} (hn : E.Nodup) (hm : ∀ x ∈ E, x < m) : ∃ es : List Nat, sortI (E.map fun k : Nat => (k : Int)) = es.map (fun k : Nat => (k : Int)) ∧ es.Sublist (List.range m) ∧ es.length = E.length := by
  have p := sortI_perm (E.map fun k : Nat => (k : Int))
  have pw := sortI_pw (E.map fun k : Nat => (k : Int))
  generalize sortI (E.map fun k : Nat => (k : Int)) = S at p pw
  have nn : ∀ x ∈ S, 0 ≤ x ∧ x < m := fun x hx => by
    obtain ⟨k, hk, rfl⟩ := List.mem_map.mp (p.mem_iff.mp hx)
    have := hm k hk
    omega
  have e : S = (S.map Int.toNat).map fun k : Nat => (k : Int) := by
    rw [List.map_map]
    conv => lhs; rw [← List.map_id S]
    exact List.map_congr_left fun x hx => by
      have := nn x hx
      show x = ((x.toNat : Nat) : Int)
      omega
  refine ⟨S.map Int.toNat, e, sub_range ?_ fun x hx => ?_, ?_⟩
  · have nd : S.Nodup := p.nodup_iff.mpr (by
      refine List.pairwise_map.mpr (hn.imp fun {a b} h z => h ?_)
      exact_mod_cast z)
    rw [List.pairwise_map]
    have := List.Pairwise.and pw nd
    refine List.Pairwise.imp_of_mem (fun {a b} ha hb h => ?_) this
    have h1 := nn a ha
    have h2 := nn b hb
    have h3 := h.1
    have h4 : a ≠ b := h.2
    omega
  · obtain ⟨y, hy, rfl⟩ := List.mem_map.mp hx
    have := nn y hy
    omega
  · have := p.length_eq
    simpa using this
theorem erase_map {α β : Type} {f : α → β} : ∀ {xs : List α} {j : Nat}, (xs.map f).eraseIdx j = (xs.eraseIdx j).map f
  | [], _ => by simp
  | x :: xs, 0 => by simp
  | x :: xs, j + 1 => by simp [erase_map (xs := xs)]
theorem pick_perm {α : Type} : ∀ {xs : List α} {j : Nat} (h : j < xs.length), (xs[j] :: xs.eraseIdx j).Perm xs
  | x :: xs, 0, _ => by simp
  | x :: xs, j + 1, h => by
    have h : j < xs.length := by simpa using h
    have := pick_perm h
    rw [List.eraseIdx_cons_succ, List.getElem_cons_succ]
    exact (List.Perm.swap x xs[j] (xs.eraseIdx j)).trans (this.cons x)
theorem nls_rg {n : Int} : nls (rgD 0 n) = true := nls_map fun _ _ => by simp
end H

set_option Elab.async false
set_option linter.all false
set_option maxRecDepth 100000
namespace H
open PySem PySem.Spec PyProof.Rows L2 Y
theorem place0 : ∀ {xs : List Int} {p : Int}, xs.foldl (fun p b => 2 * p + b) p = p * 2 ^ xs.length + placeI xs
  | [], p => by simp [placeI]
  | x :: xs, p => by
    have h1 := place0 (xs := xs) (p := 2 * p + x)
    have h2 := place0 (xs := xs) (p := 2 * 0 + x)
    unfold placeI
    rw [List.foldl_cons, List.foldl_cons, h1, h2, List.length_cons, Int.pow_succ]
    have : (2 * p + x) * 2 ^ xs.length = p * (2 ^ xs.length * 2) + x * 2 ^ xs.length := by
      rw [Int.add_mul, Int.mul_comm 2 p, Int.mul_assoc, Int.mul_comm 2]
    rw [this]
    simp only [Int.mul_zero, Int.zero_add]
    omega
theorem place_cons {x : Int} {xs : List Int} : placeI (x :: xs) = x * 2 ^ xs.length + placeI xs := by
  have := place0 (xs := xs) (p := 2 * 0 + x)
  unfold placeI at this ⊢
  rw [List.foldl_cons, this]
  simp
theorem place_stands : ∀ {m k : Nat} (h : k < (stands m).length), placeI ((stands m)[k]) = k
  | 0, k, h => by
    have : k = 0 := by simpa [stands] using h
    subst this
    rfl
  | m + 1, k, h => by
    have sl := stands_len m
    by_cases c : k < (stands m).length
    · have e : (stands (m + 1))[k] = 0 :: (stands m)[k] := by
        simp only [stands]
        rw [List.getElem_append_left (by simpa using c)]
        simp
      rw [e, place_cons, place_stands c]
      simp
    · have l1 : (stands (m + 1)).length = (stands m).length + (stands m).length := by simp [stands]
      have c2 : k - (stands m).length < (stands m).length := by omega
      have e : (stands (m + 1))[k] = 1 :: (stands m)[k - (stands m).length] := by
        simp only [stands]
        rw [List.getElem_append_right (by simpa using Nat.le_of_not_lt c)]
        simp
      rw [e, place_cons, place_stands c2, (stands_st (List.getElem_mem c2)).len, sl]
      have : k = 2 ^ m + (k - 2 ^ m) := by omega
      have p : ((2 ^ m : Nat) : Int) = 2 ^ m := by simp
      omega
theorem stands_at {m : Nat} {st : List Int} (h : IsSt m st) : (stands m)[(placeI st).toNat]? = some st := by
  obtain ⟨k, hk, e⟩ := List.getElem_of_mem (mem_stands.mpr h)
  have := place_stands hk
  rw [e] at this
  rw [this]
  show (stands m)[k]? = some st
  rw [List.getElem?_eq_getElem hk, e]
def tolI (r : RuleT) (st : List Int) : Int := r.2.getD (placeI st).toNat 0
structure RuleLk (r : RuleT) : Prop where
  len : r.1.length ≤ 8
  tab : r.2.length = 2 ^ r.1.length
  bit : ∀ x ∈ r.2, 0 ≤ x ∧ x < 2
theorem RuleOk.lk {m : Nat} {r : RuleT} (h : RuleOk m r) : RuleLk r := ⟨Nat.le_trans h.len (by omega), h.tab, h.bit⟩
theorem tol_bit {r : RuleT} {st : List Int} (h : RuleLk r) : 0 ≤ tolI r st ∧ tolI r st < 2 := getD_bit h.bit _
theorem numD_map {α : Type} {f : α → D} {xs : List α} : numD (xs.map f) = ((List.range xs.length).zip xs).map fun p => D.tup [.int (p.1 : Nat), f p.2] := by
  unfold numD
  rw [List.length_map, pairsD_map]
end H

set_option Elab.async false
set_option linter.all false
set_option maxRecDepth 100000
namespace H
open PySem PySem.Spec PyProof.Rows L2 Y
end H

set_option Elab.async false
set_option linter.all false
set_option maxRecDepth 100000
namespace H
open PySem PySem.Spec PyProof.Rows L2 Y
end H

set_option Elab.async false
set_option linter.all false
set_option maxRecDepth 100000
namespace H
open PySem PySem.Spec PyProof.Rows L2 Y
section
variable {α : Type}
end
end H

set_option Elab.async false
set_option linter.all false
set_option maxRecDepth 100000
namespace H
open PySem PySem.Spec PyProof.Rows L2 Y
end H

set_option Elab.async false
set_option linter.all false
set_option maxRecDepth 100000
namespace H
open PySem PySem.Spec PyProof.Rows L2 Y
end H

set_option Elab.async false
set_option linter.all false
set_option maxRecDepth 100000
namespace H
open PySem PySem.Spec PyProof.Rows L2 Y
section
variable {r : RuleT} {bit : Int} {ys : List (List Nat)}
end
end H

set_option Elab.async false
set_option linter.all false
set_option maxRecDepth 100000
namespace H
open PySem PySem.Spec PyProof.Rows L2 Y
section
variable {r : RuleT} {bit : Int}
def heardB (r : RuleT) (k : Nat) : Bool := (stands r.1.length).any fun st => !decide (tolI r st = tolI r (withI st k 0))
theorem withI_len {st : List Int} {k : Nat} {b : Int} (h : k < st.length) : (withI st k b).length = st.length := by
  unfold withI
  rw [List.length_append, List.length_cons, List.length_take, List.length_drop]
  omega
theorem withI_st {m k : Nat} {st : List Int} {b : Int} (h : IsSt m st) (hk : k < m) (hb : 0 ≤ b ∧ b < 2) : IsSt m (withI st k b) := by
  refine ⟨by rw [withI_len (by rw [h.len]; exact hk), h.len], fun x hx => ?_⟩
  unfold withI at hx
  rcases List.mem_append.mp hx with hx | hx
  · exact h.bit x (List.mem_of_mem_take hx)
  · rcases List.mem_cons.mp hx with rfl | hx
    · exact hb
    · exact h.bit x (List.mem_of_mem_drop hx)
theorem withI_succ {x b : Int} {st : List Int} {k : Nat} : withI (x :: st) (k + 1) b = x :: withI st k b := rfl
theorem with_id : ∀ {st : List Int} {k : Nat}, k < st.length → withI st k (st.getD k 0) = st
  | [], k, h => by simp at h
  | y :: st, 0, _ => rfl
  | y :: st, k + 1, h => by
    rw [withI_succ]
    have := with_id (st := st) (k := k) (by simpa using h)
    rw [show (y :: st).getD (k + 1) 0 = st.getD k 0 from rfl, this]
end
end H

set_option Elab.async false
set_option linter.all false
set_option maxRecDepth 100000
namespace H
open PySem PySem.Spec PyProof.Rows L2 Y
def thU (r : RuleT) (i : Nat) : List Int := ((List.range i).filter (heardB r)).map fun k => r.1.getD k 0
theorem thU_len {r : RuleT} {i : Nat} : (thU r i).length ≤ i := by
  unfold thU
  rw [List.length_map]
  refine Nat.le_trans (List.length_filter_le _ _) ?_
  rw [List.length_range]
  exact Nat.le_refl _
end H

set_option Elab.async false
set_option linter.all false
set_option maxRecDepth 100000
namespace H
open PySem PySem.Spec PyProof.Rows L2 Y
def flipB (st : List Int) (k : Nat) : List Int := withI st k (1 - st.getD k 0)
theorem xor_flip : ((List.range 5).all fun n => (List.range (2 ^ n)).all fun p => (List.range n).all fun k => decide (Builtin.bitXor (p : Int) ((2 ^ (n - 1 - k) : Nat) : Int) = placeI (flipB ((stands n).getD p []) k))) = true := by decide +kernel
theorem xor_place {n p k : Nat} (hn : n ≤ 4) (hp : p < 2 ^ n) (hk : k < n) : Builtin.bitXor (p : Int) ((2 ^ (n - 1 - k) : Nat) : Int) = placeI (flipB ((stands n).getD p []) k) := by
  have h := xor_flip
  rw [List.all_eq_true] at h
  have h := h n (List.mem_range.mpr (by omega))
  rw [List.all_eq_true] at h
  have h := h p (List.mem_range.mpr hp)
  rw [List.all_eq_true] at h
  exact of_decide_eq_true (h k (List.mem_range.mpr hk))
theorem flpB_st {n k : Nat} {st : List Int} (h : IsSt n st) (hk : k < n) : IsSt n (flipB st k) := withI_st h hk (by have := h.get k; omega)
theorem withI_at : ∀ {st : List Int} {k : Nat} {b : Int}, k < st.length → (withI st k b).getD k 0 = b
  | [], _, _, h => by simp at h
  | x :: st, 0, b, _ => rfl
  | x :: st, k + 1, b, h => by
    rw [withI_succ]
    exact withI_at (st := st) (k := k) (b := b) (by simpa using h)
theorem withI_two : ∀ {st : List Int} {k : Nat} {a b : Int}, k < st.length → withI (withI st k a) k b = withI st k b
  | [], _, _, _, h => by simp at h
  | x :: st, 0, a, b, _ => rfl
  | x :: st, k + 1, a, b, h => by
    rw [withI_succ, withI_succ, withI_succ, withI_two (by simpa using h)]
theorem withI_off : ∀ {st : List Int} {k j : Nat} {b : Int}, k < st.length → j ≠ k → (withI st k b).getD j 0 = st.getD j 0
  | [], _, _, _, h, _ => by simp at h
  | x :: st, 0, 0, b, _, hj => absurd rfl hj
  | x :: st, 0, j + 1, b, _, _ => rfl
  | x :: st, k + 1, 0, b, _, _ => by rw [withI_succ]; rfl
  | x :: st, k + 1, j + 1, b, h, hj => by
    rw [withI_succ]
    exact withI_off (st := st) (k := k) (j := j) (b := b) (by simpa using h) (by omega)
theorem heard_flip {r : RuleT} {k : Nat} (hk : k < r.1.length) : heardB r k = (stands r.1.length).any fun st => !decide (tolI r st = tolI r (flipB st k)) := by
  unfold heardB
  rw [Bool.eq_iff_iff, List.any_eq_true, List.any_eq_true]
  constructor
  · rintro ⟨st, h1, h2⟩
    have hs := stands_st h1
    have g := hs.get k
    refine ⟨st, h1, ?_⟩
    by_cases c : st.getD k 0 = 1
    · unfold flipB
      rw [c]
      exact h2
    · have c0 : st.getD k 0 = 0 := by omega
      have : withI st k 0 = st := by
        have := with_id (st := st) (k := k) (by rw [hs.len]; exact hk)
        rwa [c0] at this
      rw [this] at h2
      simp at h2
  · rintro ⟨st, h1, h2⟩
    have hs := stands_st h1
    have g := hs.get k
    have kl : k < st.length := by rw [hs.len]; exact hk
    by_cases c : st.getD k 0 = 1
    · unfold flipB at h2
      rw [c] at h2
      exact ⟨st, h1, h2⟩
    · have c0 : st.getD k 0 = 0 := by omega
      refine ⟨flipB st k, mem_stands.mpr (flpB_st hs hk), ?_⟩
      have : withI (flipB st k) k 0 = st := by
        unfold flipB
        rw [withI_two kl]
        have := with_id (st := st) (k := k) kl
        rwa [c0] at this
      rw [this]
      have h2 : ¬ tolI r st = tolI r (flipB st k) := by simpa using h2
      simpa using fun z => h2 z.symm
def hpP (r : RuleT) (i : Nat) : List Nat := (List.range i).filter (heardB r)
def dHp (r : RuleT) (k : Nat) : D := .tup [.int k, .int (r.1.getD k 0)]
theorem hpP_succ {r : RuleT} {i : Nat} : hpP r (i + 1) = if heardB r i = true then hpP r i ++ [i] else hpP r i := by
  unfold hpP
  rw [List.range_succ, List.filter_append]
  cases c : heardB r i with
  | true => rw [if_pos rfl]; simp [c]
  | false => rw [if_neg Bool.false_ne_true]; simp [c]
theorem hpP_len {r : RuleT} {i : Nat} : (hpP r i).length ≤ i := by
  unfold hpP
  refine Nat.le_trans (List.length_filter_le _ _) ?_
  rw [List.length_range]
  exact Nat.le_refl _
theorem getD_stands {n p : Nat} (h : p < 2 ^ n) : (stands n).getD p [] ∈ stands n ∧ placeI ((stands n).getD p []) = p := by
  have hl : p < (stands n).length := by rw [stands_len]; exact h
  have e : (stands n).getD p [] = (stands n)[p] := by rw [List.getD_eq_getElem?_getD, List.getElem?_eq_getElem hl]; rfl
  rw [e]
  exact ⟨List.getElem_mem hl, place_stands hl⟩
theorem heard_any {r : RuleT} {k : Nat} (hk : k < r.1.length) : ((List.range (2 ^ r.1.length)).any fun p => !decide (tolI r ((stands r.1.length).getD p []) = tolI r (flipB ((stands r.1.length).getD p []) k))) = heardB r k := by
  rw [heard_flip hk, Bool.eq_iff_iff, List.any_eq_true, List.any_eq_true]
  constructor
  · rintro ⟨p, hp, h⟩
    exact ⟨_, (getD_stands (List.mem_range.mp hp)).1, h⟩
  · rintro ⟨st, hst, h⟩
    have hs := stands_st hst
    have pl := placeI_lt hs.bit
    rw [hs.len] at pl
    have := stands_at hs
    refine ⟨(placeI st).toNat, List.mem_range.mpr ((Int.toNat_lt pl.1).mpr (by exact_mod_cast pl.2)), ?_⟩
    have e : (stands r.1.length).getD (placeI st).toNat [] = st := by rw [List.getD_eq_getElem?_getD, this]; rfl
    rw [e]
    exact h
end H

set_option Elab.async false
set_option linter.all false
set_option maxRecDepth 100000
namespace H
open PySem PySem.Spec PyProof.Rows L2 Y
theorem pairs_map {α β : Type} {f : α → D} {g : β → D} : ∀ {xs : List α} {ys : List β}, pairsD (xs.map f) (ys.map g) = (xs.zip ys).map fun p => D.tup [f p.1, g p.2]
  | [], ys => by cases ys <;> rfl
  | x :: xs, [] => rfl
  | x :: xs, y :: ys => by
    show D.tup [f x, g y] :: pairsD (xs.map f) (ys.map g) = _
    rw [pairs_map]
    rfl
def setF (b : List Int) (L : List (Int × Nat)) : List Int := L.foldl (fun b q => b.set q.2 q.1) b
def hpL (r : RuleT) : List Nat := hpP r r.1.length
def spread (r : RuleT) (rd : List Int) : List Int := setF (List.replicate r.1.length 0) (rd.zip (hpL r))
theorem setF_len : ∀ {L : List (Int × Nat)} {b : List Int}, (setF b L).length = b.length
  | [], b => rfl
  | q :: L, b => by
    show (setF (b.set q.2 q.1) L).length = _
    rw [setF_len, List.length_set]
theorem setF_off : ∀ {L : List (Int × Nat)} {b : List Int} {i : Nat}, (∀ q ∈ L, q.2 ≠ i) → (setF b L).getD i 0 = b.getD i 0
  | [], b, i, _ => rfl
  | q :: L, b, i, h => by
    show (setF (b.set q.2 q.1) L).getD i 0 = _
    rw [setF_off fun q' hq => h q' (by simp [hq])]
    rw [List.getD_eq_getElem?_getD, List.getD_eq_getElem?_getD, List.getElem?_set_ne (h q (by simp))]
theorem setF_at : ∀ {L : List (Int × Nat)} {b : List Int} {v : Int} {i : Nat}, (L.map Prod.snd).Nodup → (v, i) ∈ L → i < b.length → (setF b L).getD i 0 = v
  | [], b, v, i, _, h, _ => by simp at h
  | q :: L, b, v, i, nd, h, hi => by
    show (setF (b.set q.2 q.1) L).getD i 0 = v
    rw [List.map_cons, List.nodup_cons] at nd
    rcases List.mem_cons.mp h with e | e
    · subst e
      rw [setF_off fun q' hq z => nd.1 (List.mem_map.mpr ⟨q', hq, z⟩)]
      rw [List.getD_eq_getElem?_getD, List.getElem?_set_self hi]
      rfl
    · exact setF_at nd.2 e (by rw [List.length_set]; exact hi)
theorem setF_bit : ∀ {L : List (Int × Nat)} {b : List Int}, (∀ x ∈ b, 0 ≤ x ∧ x < 2) → (∀ q ∈ L, 0 ≤ q.1 ∧ q.1 < 2) → ∀ x ∈ setF b L, 0 ≤ x ∧ x < 2
  | [], b, h, _ => h
  | q :: L, b, h, h2 => by
    show ∀ x ∈ setF (b.set q.2 q.1) L, _
    refine setF_bit (fun x hx => ?_) fun q' hq => h2 q' (by simp [hq])
    rcases List.mem_or_eq_of_mem_set hx with z | z
    · exact h x z
    · rw [z]; exact h2 q (by simp)
theorem spread_st {r : RuleT} {rd : List Int} (h : IsSt (hpL r).length rd) : IsSt r.1.length (spread r rd) := ⟨by unfold spread; rw [setF_len, List.length_replicate], setF_bit (fun x hx => by rw [(List.mem_replicate.mp hx).2]; omega) fun q hq => h.bit _ (List.of_mem_zip hq).1⟩
theorem hpL_lt {r : RuleT} {i : Nat} (h : i ∈ hpL r) : i < r.1.length ∧ heardB r i = true := by
  obtain ⟨h1, h2⟩ := List.mem_filter.mp h
  exact ⟨List.mem_range.mp h1, h2⟩
theorem hpL_nd {r : RuleT} : (hpL r).Nodup := List.Pairwise.sublist List.filter_sublist List.nodup_range
theorem spread_at {r : RuleT} {rd : List Int} (h : IsSt (hpL r).length rd) {q : Nat} (hq : q < (hpL r).length) : (spread r rd).getD (hpL r)[q] 0 = rd.getD q 0 := by
  have hl := h.len
  unfold spread
  have e : rd.getD q 0 = rd[q] := by rw [List.getD_eq_getElem?_getD, List.getElem?_eq_getElem (by omega)]; rfl
  rw [e]
  refine setF_at ?_ ?_ ?_
  · rw [List.map_snd_zip (by omega)]
    exact hpL_nd
  · refine List.mem_iff_getElem?.mpr ⟨q, List.getElem?_zip_eq_some.mpr ⟨List.getElem?_eq_getElem (by omega), List.getElem?_eq_getElem hq⟩⟩
  · rw [List.length_replicate]
    exact (hpL_lt (List.getElem_mem hq)).1
def slimR (r : RuleT) : RuleT := (thU r r.1.length, (stands (hpL r).length).map fun rd => tolI r (spread r rd))
section
variable {r : RuleT}
end
end H

set_option Elab.async false
set_option linter.all false
set_option maxRecDepth 100000
namespace H
open PySem PySem.Spec PyProof.Rows L2 Y
theorem range_getD {α : Type} {xs : List α} {d : α} {m : Nat} (h : xs.length = m) : (List.range m).map (fun j => xs.getD j d) = xs := by
  subst h
  refine List.ext_getElem (by simp) fun i h1 h2 => ?_
  simp [List.getD_eq_getElem?_getD, List.getElem?_eq_getElem h2]
structure EarsOk (m : Nat) (r : RuleT) : Prop where
  sub : ∃ es : List Nat, r.1 = es.map (fun j : Nat => (j : Int)) ∧ es.Nodup ∧ ∀ j ∈ es, j < m
theorem RuleOk.ears {m : Nat} {r : RuleT} (h : RuleOk m r) : EarsOk m r := by
  obtain ⟨es, e1, s⟩ := h.sub
  exact ⟨es, e1, s.nodup List.nodup_range, fun j hj => List.mem_range.mp (s.subset hj)⟩
end H

set_option Elab.async false
set_option linter.all false
set_option maxRecDepth 100000
namespace H
open PySem PySem.Spec PyProof.Rows L2 Y
abbrev li (xs : List Int) : D := .lst (xs.map D.int)
theorem NetOk.lk {ns : List RuleT} {most k : Nat} (h : NetOk ns most) (hk : k < ns.length) : RuleOk ns.length (ns.getD k ([], [])) := by
  rw [List.getD_eq_getElem?_getD, List.getElem?_eq_getElem hk]
  exact h.rule _ (List.getElem_mem hk)
end H

set_option Elab.async false
set_option linter.all false
set_option maxRecDepth 100000
namespace H
open PySem PySem.Spec PyProof.Rows L2 Y
end H

set_option Elab.async false
set_option linter.all false
set_option maxRecDepth 100000
namespace H
open PySem PySem.Spec PyProof.Rows L2 Y
def Nd : Nat → D → Prop
  | 0, d => noDit d = true
  | n + 1, d => noDit d = true ∧ ∀ xs, d = .tup xs → xs.length ≤ 1000000 ∧ ∀ x ∈ xs, Nd n x
theorem Nd.no : ∀ {n : Nat} {d : D}, Nd n d → noDit d = true
  | 0, _, h => h
  | _ + 1, _, h => h.1
theorem Nd.down : ∀ {n : Nat} {d : D}, Nd (n + 1) d → Nd n d
  | 0, _, h => h.1
  | n + 1, _, h => ⟨h.1, fun xs e => ⟨(h.2 xs e).1, fun x hx => Nd.down ((h.2 xs e).2 x hx)⟩⟩
theorem nd_flat {n : Nat} {d : D} (h : noDit d = true) (h2 : ∀ xs, d ≠ .tup xs) : Nd n d := by
  cases n with
  | zero => exact h
  | succ n => exact ⟨h, fun xs e => absurd e (h2 xs)⟩
@[simp] theorem nd_int {n : Nat} {i : Int} : Nd n (.int i) := nd_flat rfl (by simp)
@[simp] theorem nd_bl {n : Nat} {b : Bool} : Nd n (.bl b) := nd_flat rfl (by simp)
@[simp] theorem nd_non {n : Nat} : Nd n .non := nd_flat rfl (by simp)
@[simp] theorem nd_str {n : Nat} {x : Str} : Nd n (.str x) := nd_flat rfl (by simp)
@[simp] theorem nd_lst {n : Nat} {x : List D} : Nd n (.lst x) := nd_flat rfl (by simp)
@[simp] theorem nd_dik {n : Nat} {k : List Key} {x : List D} : Nd n (.dik k x) := nd_flat rfl (by simp)
theorem Nd.tup {n : Nat} {xs : List D} (h : Nd (n + 1) (.tup xs)) : xs.length ≤ 1000000 ∧ ∀ x ∈ xs, Nd n x := h.2 xs rfl
end H

set_option Elab.async false
set_option linter.all false
set_option maxRecDepth 100000
namespace H
open PySem PySem.Spec PyProof.Rows L2 Y
end H

set_option Elab.async false
set_option linter.all false
set_option maxRecDepth 100000
namespace H
open PySem PySem.Spec PyProof.Rows L2 Y
inductive Pap where
  | rest | against (k : Nat) | split (k : Nat) (a b : Pap)
abbrev wRest : D := dt [114, 101, 115, 116]
abbrev wAg : D := dt [97, 103, 97, 105, 110, 115, 116]
abbrev wSplit : D := dt [115, 112, 108, 105, 116]
def Pap.d : Pap → D
  | .rest => .tup [wRest]
  | .against k => .tup [wAg, .int k]
  | .split k a b => .tup [wSplit, .int k, a.d, b.d]
def Pap.ok (m : Nat) : Pap → Prop
  | .rest => True
  | .against k => k < m
  | .split k a b => k < m ∧ a.ok m ∧ b.ok m
def sign (f : List Nat) (k c : Nat) : List Nat := f.take k ++ c :: f.drop (k + 1)
def both (x y : Option (List (List Int))) : Option (List (List Int)) := match x with
  | none => none
  | some a => match y with
    | none => none
    | some b => some (a ++ b)
end H

set_option Elab.async false
set_option linter.all false
set_option maxRecDepth 100000
namespace H
open PySem PySem.Spec PyProof.Rows L2 Y
theorem sort_lti {xs : List (List Int)} (h : ∀ x ∈ xs, x ≠ []) : sortD [lti xs] = .ok (lti (sortL xs)) := by
  cases xs with
  | nil =>
    have h1 := d_sortN (xs := [])
    have e1 : sortI [] = [] := by simp [sortI]
    have e2 : sortL [] = [] := by simp [sortL]
    rw [e1] at h1
    rw [e2]
    exact h1
  | cons x xs =>
    refine sortD_tups ?_
    unfold sortOk
    rw [Bool.or_eq_true]
    refine .inr (List.all_eq_true.mpr fun y hy => ?_)
    have := h y hy
    cases y with
    | nil => exact absurd rfl this
    | cons _ _ => rfl
end H

set_option Elab.async false
set_option linter.all false
set_option maxRecDepth 100000
namespace H
open PySem PySem.Spec PyProof.Rows L2 Y
end H

set_option Elab.async false
set_option linter.all false
set_option maxRecDepth 100000
namespace H
open PySem PySem.Spec PyProof.Rows L2 Y
theorem put_new {ks : List Nat} {k : Nat} (h : k ∉ ks) {ds : List D} {d : D} : putKs (ks.map fun k : Nat => (Sum.inl (k : Int) : Key)) (Sum.inl (k : Int)) = (ks ++ [k]).map (fun k : Nat => (Sum.inl (k : Int) : Key)) ∧ putDs (ks.map fun k : Nat => (Sum.inl (k : Int) : Key)) ds (Sum.inl (k : Int)) d = ds ++ [d] := by
  have n : (Sum.inl (k : Int) : Key) ∉ ks.map fun k : Nat => (Sum.inl (k : Int) : Key) := fun z => by
    obtain ⟨j, hj, e⟩ := List.mem_map.mp z
    have e2 := Sum.inl.inj e
    exact h (by rw [← show j = k by omega]; exact hj)
  unfold putKs putDs
  rw [if_neg n, if_neg n, List.map_append]
  exact ⟨rfl, rfl⟩
end H

set_option Elab.async false
set_option linter.all false
set_option maxRecDepth 100000
namespace H
open PySem PySem.Spec PyProof.Rows L2 Y
def flipI (st : List Int) (k : Nat) : List Int := withI st k (1 - st.getD k 0)
def addS (L : List (List Int)) (t : List Int) : List (List Int) := if t ∈ L then L else L ++ [t]
def nextI (ns : List RuleT) (st : List Int) : List (List Int) := (wrongI ns st).map (flipI st)
def stepS (ns : List RuleT) (L : List (List Int)) (st : List Int) : List (List Int) := (nextI ns st).foldl addS L
structure InS (m : Nat) (L : List (List Int)) : Prop where
  nd : L.Nodup
  st : ∀ x ∈ L, IsSt m x
theorem nodup_len {α : Type} [DecidableEq α] : ∀ {A B : List α}, A.Nodup → (∀ x ∈ A, x ∈ B) → A.length ≤ B.length
  | [], B, _, _ => by simp
  | x :: A, B, h, s => by
    obtain ⟨h1, h2⟩ := List.nodup_cons.mp h
    have hx := s x (by simp)
    have ih := nodup_len (A := A) (B := B.erase x) h2 fun y hy => (List.mem_erase_of_ne fun z : y = x => h1 (by rw [← z]; exact hy)).mpr (s y (by simp [hy]))
    rw [List.length_erase_of_mem hx] at ih
    have : 0 < B.length := List.length_pos_of_mem hx
    rw [List.length_cons]
    omega
theorem InS.len {m : Nat} {L : List (List Int)} (h : InS m L) : L.length ≤ 2 ^ m := by
  have := nodup_len h.nd (B := stands m) fun x hx => mem_stands.mpr (h.st x hx)
  rwa [stands_len] at this
theorem InS.add {m : Nat} {L : List (List Int)} {t : List Int} (h : InS m L) (ht : IsSt m t) : InS m (addS L t) := by
  unfold addS
  by_cases c : t ∈ L
  · rwa [if_pos c]
  · rw [if_neg c]
    refine ⟨List.nodup_append.mpr ⟨h.nd, by simp, fun a ha b hb z => ?_⟩, fun x hx => ?_⟩
    · rw [List.mem_singleton] at hb
      exact c (by rw [← hb, ← z]; exact ha)
    · rcases List.mem_append.mp hx with hx | hx
      · exact h.st x hx
      · rw [List.mem_singleton] at hx
        rw [hx]; exact ht
theorem flip_st {m k : Nat} {st : List Int} (h : IsSt m st) (hk : k < m) : IsSt m (flipI st k) := by
  have g := h.get k
  refine ⟨?_, fun x hx => ?_⟩
  · unfold flipI withI
    rw [List.length_append, List.length_cons, List.length_take, List.length_drop, h.len]
    omega
  · unfold flipI withI at hx
    rcases List.mem_append.mp hx with hx | hx
    · exact h.bit x (List.mem_of_mem_take hx)
    · rcases List.mem_cons.mp hx with rfl | hx
      · omega
      · exact h.bit x (List.mem_of_mem_drop hx)
theorem wrong_lt {ns : List RuleT} {st : List Int} {k : Nat} (h : k ∈ wrongI ns st) : k < ns.length := by
  unfold wrongI at h
  exact List.mem_range.mp (List.mem_filter.mp h).1
theorem InS.step {ns : List RuleT} {L : List (List Int)} {st : List Int} (h : InS ns.length L) (hs : IsSt ns.length st) : InS ns.length (stepS ns L st) := by
  have : ∀ (ts : List (List Int)) (L : List (List Int)), InS ns.length L → (∀ t ∈ ts, IsSt ns.length t) → InS ns.length (ts.foldl addS L) := fun ts => by
    induction ts with
    | nil => intro L h _; exact h
    | cons t ts ih => intro L h ht; exact ih _ (h.add (ht t (by simp))) fun x hx => ht x (by simp [hx])
  refine this _ L h fun t ht => ?_
  obtain ⟨k, hk, rfl⟩ := List.mem_map.mp ht
  exact flip_st hs (wrong_lt hk)
theorem law_change_ok {st : List Int} {m k : Nat} (hs : IsSt m st) (hk : k < m) (hm : m ≤ 20) : C.g__law_change [ti st, .int k] = .ok (.fr (ti (flipI st k))) := by
  have a := atI_mapI (xs := st) (i := k) (by omega) (by rw [hs.len]; omega)
  rw [Int.toNat_natCast] at a
  have a : atI (st.map D.int) k = some (.int (st.getD k 0)) := a
  have l := hs.len
  have c1 : Y.cutD (st.map D.int) none (some (k : Int)) = (st.take k).map D.int := by rw [cut_to, List.map_take]
  have c2 : Y.cutD (st.map D.int) (some ((k : Int) + 1)) none = (st.drop (k + 1)).map D.int := by rw [show ((k : Int) + 1) = ((k + 1 : Nat) : Int) by omega, cut_from, List.map_drop]
  simp only [C.g__law_change, C.m__law_change]
  unfold flipI withI
  generalize st.getD k 0 = b at a ⊢
  have z1 : szOk ((st.take k).length + 1) = true := szOk_of (by rw [List.length_take]; omega)
  have z2 : szOk ((st.take k).length + (1 + (st.drop (k + 1)).length)) = true := szOk_of (by rw [List.length_take, List.length_drop]; omega)
  have z3 : szOk ((st.take k).length + 1 + (st.drop (k + 1)).length) = true := szOk_of (by rw [List.length_take, List.length_drop]; omega)
  generalize st.take k = A at *
  generalize st.drop (k + 1) = B at *
  simp [e_fnP, a, c1, c2, z1, z2, z3]
abbrev kt (t : List Int) : List Key := t.map Sum.inl
theorem keys_ti : ∀ t : List Int, keysOf (t.map D.int) = some (kt t)
  | [] => rfl
  | x :: t => by
    rw [List.map_cons]
    unfold keysOf
    rw [keys_ti t]
    rfl
end H

set_option Elab.async false
set_option linter.all false
set_option maxRecDepth 100000
namespace H
open PySem PySem.Spec PyProof.Rows L2 Y
end H

set_option Elab.async false
set_option linter.all false
set_option maxRecDepth 100000
namespace H
open PySem PySem.Spec PyProof.Rows L2 Y
theorem flip_getD {m : Nat} {st : List Int} (hs : st.length = m) {k j : Nat} (hk : k < m) : (flipI st k).getD j 0 = if j = k then 1 - st.getD k 0 else st.getD j 0 := by
  unfold flipI withI
  generalize 1 - st.getD k 0 = b
  rw [List.getD_eq_getElem?_getD, List.getD_eq_getElem?_getD]
  have lt : (st.take k).length = k := by rw [List.length_take]; omega
  by_cases h1 : j < k
  · rw [List.getElem?_append_left (by omega), if_neg (by omega), List.getElem?_take_of_lt h1]
  · rw [List.getElem?_append_right (by omega), lt]
    by_cases h2 : j = k
    · subst h2
      rw [Nat.sub_self, if_pos rfl]
      rfl
    · rw [if_neg h2]
      obtain ⟨i, rfl⟩ := Nat.exists_eq_add_of_le (show k + 1 ≤ j by omega)
      rw [show k + 1 + i - k = i + 1 by omega, List.getElem?_cons_succ, List.getElem?_drop]
theorem rest_ought {ns : List RuleT} {st : List Int} (h : wrongI ns st = []) {k : Nat} (hk : k < ns.length) : oughtI ns st k = st.getD k 0 := by
  unfold wrongI at h
  rw [List.filter_eq_nil_iff] at h
  simpa using h k (List.mem_range.mpr hk)
end H

set_option Elab.async false
set_option linter.all false
set_option maxRecDepth 100000
namespace H
open PySem PySem.Spec PyProof.Rows L2 Y
theorem addS_mem {t x : List Int} {L : List (List Int)} : x ∈ addS L t ↔ x ∈ L ∨ x = t := by
  unfold addS
  split
  · rename_i c
    exact ⟨.inl, fun h => h.elim id fun e => e ▸ c⟩
  · rw [List.mem_append, List.mem_singleton]
theorem eqPs_map {α : Type} [DecidableEq α] {f : α → D} (hf : ∀ x y, eqP (f x) (f y) = decide (x = y)) : ∀ {xs ys : List α}, eqPs (xs.map f) (ys.map f) = decide (xs = ys)
  | [], [] => by simp [eqPs]
  | [], _ :: _ => by simp [eqPs]
  | _ :: _, [] => by simp [eqPs]
  | x :: xs, y :: ys => by
    have ih := eqPs_map hf (xs := xs) (ys := ys)
    simp only [List.map_cons, eqPs, hf, ih, List.cons.injEq]
    by_cases a : x = y <;> by_cases b : xs = ys <;> simp [a, b]
theorem eqP_ti {a b : List Int} : eqP (ti a) (ti b) = decide (a = b) := by rw [eqP_tup, eqPs_ints]
theorem eqP_lti {a b : List (List Int)} : eqP (lti a) (lti b) = decide (a = b) := by rw [eqP_lst, eqPs_map fun x y => eqP_ti]
theorem ne_lti {a b : List (List Int)} : neD (lti a) (lti b) = .ok (.bl (!decide (a = b))) := by rw [neD_of (n := 2) fit_lti fit_lti, eqP_lti]
end H

set_option Elab.async false
set_option linter.all false
set_option maxRecDepth 100000
namespace H
open PySem PySem.Spec PyProof.Rows L2 Y
@[simp] theorem e_dget {a b : EM} {ρ : Y.Env} : cDGet a b ρ = (a ρ >>= fun p => b p.2 >>= fun q => (p.1.d q.2).nox >>= fun x => (q.1.d q.2).nox >>= fun y => (getDic x y).nox >>= fun o => match o with | some z => R.ok (.vl z, q.2) | none => .stk) := id rfl
end H

set_option Elab.async false
set_option linter.all false
set_option maxRecDepth 100000
namespace H
open PySem PySem.Spec PyProof.Rows L2 Y
end H

set_option Elab.async false
set_option linter.all false
set_option maxRecDepth 100000
namespace H
open PySem PySem.Spec PyProof.Rows L2 Y
end H

set_option Elab.async false
set_option linter.all false
set_option maxRecDepth 100000
namespace H
open PySem PySem.Spec PyProof.Rows L2 Y
end H

set_option Elab.async false
set_option linter.all false
set_option maxRecDepth 100000
namespace H
open PySem PySem.Spec PyProof.Rows L2 Y
end H

set_option Elab.async false
set_option linter.all false
set_option maxRecDepth 100000
namespace H
open PySem PySem.Spec PyProof.Rows L2 Y
end H

set_option Elab.async false
set_option linter.all false
set_option maxRecDepth 100000
namespace H
open PySem PySem.Spec PyProof.Rows L2 Y
structure NetM (m : Nat) (ns : List RuleT) : Prop where
  len : ns.length = m
  rule : ∀ r ∈ ns, RuleOk m r
theorem NetM.good {m : Nat} {ns : List RuleT} (h : NetM m ns) (hm : m ≤ 100) : GoodNet ns where
  sz := by rw [h.len]; exact hm
  ear := fun r hr => by
    have k := h.rule r hr
    refine ⟨by have := k.len; omega, fun e he => ?_, k.tab⟩
    obtain ⟨es, e1, sub⟩ := k.sub
    rw [e1] at he
    obtain ⟨j, hj, rfl⟩ := List.mem_map.mp he
    have := List.mem_range.mp (sub.subset hj)
    rw [h.len]
    omega
theorem NetM.at {m k : Nat} {ns : List RuleT} (h : NetM m ns) (hk : k < m) : RuleOk m (ns.getD k ([], [])) := by
  rw [List.getD_eq_getElem?_getD, List.getElem?_eq_getElem (by rw [h.len]; exact hk)]
  exact h.rule _ (List.getElem_mem _)
theorem NetM.bit {m k : Nat} {ns : List RuleT} {st : List Int} (h : NetM m ns) (hk : k < m) : oughtI ns st k = 0 ∨ oughtI ns st k = 1 := by
  have := getD_bit (h.at hk).bit (placeI ((ns.getD k ([], [])).1.map fun e => st.getD e.toNat 0)).toNat
  unfold oughtI tellI
  omega
inductive Tree where
  | is (i : Int) | look (st : List Int) (k : Nat) (a b : Tree)
abbrev wIs : D := dt [105, 115]
abbrev wLk : D := dt [108, 111, 111, 107]
def Tree.d : Tree → D
  | .is i => .tup [wIs, .int i]
  | .look st k a b => .tup [wLk, ti st, .int k, a.d, b.d]
def Tree.ok (m : Nat) : Tree → Prop
  | .is _ => True
  | .look st k a b => IsSt m st ∧ k < m ∧ a.ok m ∧ b.ok m
theorem i2 {a b : D} : atI [a, b] 0 = some a ∧ atI [a, b] 1 = some b := ⟨atI_of (j := 0) rfl rfl, atI_of (j := 1) rfl rfl⟩
end H

set_option Elab.async false
set_option linter.all false
set_option maxRecDepth 100000
namespace H
open PySem PySem.Spec PyProof.Rows L2 Y
end H

set_option Elab.async false
set_option linter.all false
set_option maxRecDepth 100000
namespace H
open PySem PySem.Spec PyProof.Rows L2 Y
theorem in_ti {x : Int} {xs : List Int} : inD (.int x) (ti xs) = .ok (.bl (decide (x ∈ xs))) := by
  have c1 : flatD (.int x) = true := rfl
  have c2 : (xs.map D.int).all flatD = true := by
    rw [List.all_map, List.all_eq_true]
    exact fun _ _ => rfl
  have e : ((xs.map D.int).any fun z => eqP z (.int x)) = decide (x ∈ xs) := by
    rw [List.any_map, Bool.eq_iff_iff, List.any_eq_true, decide_eq_true_eq]
    constructor
    · rintro ⟨y, hy, h⟩
      have : eqP (.int y) (.int x) = true := h
      rw [eqP_int, beq_iff_eq] at this
      rw [← this]; exact hy
    · intro h
      exact ⟨x, h, by show eqP (.int x) (.int x) = true; rw [eqP_int]; simp⟩
  show (match (if (flatD (.int x) && (xs.map D.int).all flatD) = true then some ((xs.map D.int).any fun z => eqP z (.int x)) else none) with | some b => R.ok (D.bl b) | none => .stk) = _
  rw [c1, c2, e]
  rfl
end H

set_option Elab.async false
set_option linter.all false
set_option maxRecDepth 100000
namespace H
open PySem PySem.Spec PyProof.Rows L2 Y
section
variable {ns : List RuleT} {o : List (List Nat)}
end
end H

set_option Elab.async false
set_option linter.all false
set_option maxRecDepth 100000
namespace H
open PySem PySem.Spec PyProof.Rows L2 Y
def rgI (n : Nat) : List Int := (List.range n).map fun k : Nat => (k : Int)
def tE : D → Bool
  | .tup ys => !ys.isEmpty | _ => false
end H

set_option Elab.async false
set_option linter.all false
set_option maxRecDepth 100000
namespace H
open PySem PySem.Spec PyProof.Rows L2 Y
end H

set_option Elab.async false
set_option linter.all false
set_option maxRecDepth 100000
namespace H
open PySem PySem.Spec PyProof.Rows L2 Y
end H

set_option Elab.async false
set_option linter.all false
set_option maxRecDepth 100000
namespace H
open PySem PySem.Spec PyProof.Rows L2 Y
end H

set_option Elab.async false
set_option linter.all false
set_option maxRecDepth 100000
namespace H
open PySem PySem.Spec PyProof.Rows L2 Y
abbrev SeT := List Int × Nat × Int
end H

set_option Elab.async false
set_option linter.all false
set_option maxRecDepth 100000
namespace H
open PySem PySem.Spec PyProof.Rows L2 Y
end H

set_option Elab.async false
set_option linter.all false
set_option maxRecDepth 100000
namespace H
open PySem PySem.Spec PyProof.Rows L2 Y
theorem RuleOk.up {m k : Nat} {r : RuleT} (h : RuleOk k r) (hk : k ≤ m) : RuleOk m r := ⟨h.len, let ⟨es, e, s⟩ := h.sub; ⟨es, e, s.trans (by
  obtain ⟨d, rfl⟩ : ∃ d, m = k + d := ⟨m - k, by omega⟩
  rw [List.range_add]
  exact List.sublist_append_left _ _)⟩, h.tab, h.bit⟩
theorem RuleOk.nats {m : Nat} {r : RuleT} (h : RuleOk m r) : ∃ es : List Nat, r.1 = es.map (fun j : Nat => (j : Int)) ∧ es.Nodup ∧ ∀ x ∈ es, x < m := by
  obtain ⟨es, e, s⟩ := h.sub
  exact ⟨es, e, s.nodup List.nodup_range, fun x hx => List.mem_range.mp (s.subset hx)⟩
end H

set_option Elab.async false
set_option linter.all false
set_option maxRecDepth 100000
namespace H
open PySem PySem.Spec PyProof.Rows L2 Y
theorem flat_len {α β : Type} {f : α → List β} {c : Nat} : ∀ {xs : List α}, (∀ x ∈ xs, (f x).length ≤ c) → (xs.flatMap f).length ≤ xs.length * c
  | [], _ => by simp
  | x :: xs, h => by
    rw [List.flatMap_cons, List.length_append, List.length_cons, Nat.succ_mul]
    have := h x (by simp)
    have := flat_len (xs := xs) fun y hy => h y (by simp [hy])
    omega
theorem NetOk.lkAt {ns : List RuleT} {most k : Nat} (h : NetOk ns most) (hk : k < ns.length) : RuleOk ns.length (ns.getD k ([], [])) := by
  rw [List.getD_eq_getElem?_getD, List.getElem?_eq_getElem hk]
  exact h.rule _ (List.getElem_mem hk)
def chI (ns : List RuleT) (st : List Int) (j k : Nat) : Int := oughtI ns (withI st j 1) k - oughtI ns st k
def stepW (ns : List RuleT) (st : List Int) (j : Nat) (L : List (List Int)) (k : Nat) : List (List Int) := if chI ns st j k ≠ 0 then addS L [(j : Int), (k : Int), chI ns st j k] else L
theorem addS_nd {L : List (List Int)} {t : List Int} (h : L.Nodup) : (addS L t).Nodup := by
  unfold addS
  by_cases c : t ∈ L
  · rwa [if_pos c]
  · rw [if_neg c]
    exact List.nodup_append.mpr ⟨h, by simp, fun a ha b hb z => by
      rw [List.mem_singleton] at hb
      exact c (by rw [← hb, ← z]; exact ha)⟩
def WOk (m : Nat) (L : List (List Int)) : Prop := L.Nodup ∧ ∀ t ∈ L, ∃ j k : Nat, j < m ∧ k < m ∧ (t = [(j : Int), (k : Int), 1] ∨ t = [(j : Int), (k : Int), -1])
theorem WOk.len {m : Nat} {L : List (List Int)} (h : WOk m L) : L.length ≤ m * (m * 2) := by
  have := nodup_len (B := (List.range m).flatMap fun j => (List.range m).flatMap fun k => [[((j : Nat) : Int), ((k : Nat) : Int), 1], [(j : Int), (k : Int), -1]]) h.1 fun t ht => by
    obtain ⟨j, k, hj, hk, e⟩ := h.2 t ht
    exact List.mem_flatMap.mpr ⟨j, List.mem_range.mpr hj, List.mem_flatMap.mpr ⟨k, List.mem_range.mpr hk, by simpa using e⟩⟩
  refine Nat.le_trans this ?_
  have a := flat_len (xs := List.range m) (f := fun j => (List.range m).flatMap fun k => [[((j : Nat) : Int), ((k : Nat) : Int), 1], [(j : Int), (k : Int), -1]]) (c := m * 2) fun j _ => by
    have := flat_len (xs := List.range m) (f := fun k => [[((j : Nat) : Int), ((k : Nat) : Int), 1], [(j : Int), (k : Int), -1]]) (c := 2) fun k _ => by simp
    rwa [List.length_range] at this
  rwa [List.length_range] at a
theorem WOk.step {ns : List RuleT} {m : Nat} {st : List Int} {j k : Nat} {L : List (List Int)} (h : WOk m L) (hj : j < m) (hk : k < m) (b : ∀ st, oughtI ns st k = 0 ∨ oughtI ns st k = 1) : WOk m (stepW ns st j L k) := by
  unfold stepW
  by_cases c : chI ns st j k ≠ 0
  · rw [if_pos c]
    refine ⟨addS_nd h.1, fun t ht => ?_⟩
    rcases addS_mem.mp ht with q | q
    · exact h.2 t q
    · refine ⟨j, k, hj, hk, ?_⟩
      have b1 := b (withI st j 1)
      have b2 := b st
      have : chI ns st j k = 1 ∨ chI ns st j k = -1 := by unfold chI at c ⊢; omega
      rcases this with z | z <;> rw [z] at q
      · exact .inl q
      · exact .inr q
  · rw [if_neg c]; exact h
theorem NetOk.bit {ns : List RuleT} {most k : Nat} (h : NetOk ns most) (hk : k < ns.length) (st : List Int) : oughtI ns st k = 0 ∨ oughtI ns st k = 1 := by
  have := getD_bit (h.lkAt hk).bit (placeI ((ns.getD k ([], [])).1.map fun e => st.getD e.toNat 0)).toNat
  have e : oughtI ns st k = (ns.getD k ([], [])).2.getD (placeI ((ns.getD k ([], [])).1.map fun e => st.getD e.toNat 0)).toNat 0 := rfl
  omega
end H

set_option Elab.async false
set_option linter.all false
set_option maxRecDepth 100000
namespace H
open PySem PySem.Spec PyProof.Rows L2 Y
/-- pairs of switches -/
def PrOk (m : Nat) (L : List (List Int)) : Prop := L.Nodup ∧ ∀ p ∈ L, ∃ j k : Nat, j < m ∧ k < m ∧ p = [(j : Int), (k : Int)]
theorem PrOk.len {m : Nat} {L : List (List Int)} (h : PrOk m L) : L.length ≤ m * m := by
  have sub : L ⊆ (List.range m).flatMap fun j : Nat => (List.range m).map fun k : Nat => [(j : Int), (k : Int)] := fun p hp => by
    obtain ⟨j, k, hj, hk, rfl⟩ := h.2 p hp
    exact List.mem_flatMap.mpr ⟨j, List.mem_range.mpr hj, List.mem_map.mpr ⟨k, List.mem_range.mpr hk, rfl⟩⟩
  have := nodup_len h.1 fun p hp => sub hp
  have l : ((List.range m).flatMap fun j : Nat => (List.range m).map fun k : Nat => [(j : Int), (k : Int)]).length ≤ (List.range m).length * m := flat_len fun j _ => by simp
  rw [List.length_range] at l
  omega
end H

set_option Elab.async false
set_option linter.all false
set_option maxRecDepth 100000
namespace H
open PySem PySem.Spec PyProof.Rows L2 Y
def tk (t : List Int) : List Key × Int := ([.inl (t.getD 0 0), .inl (t.getD 1 0)], t.getD 2 0)
end H

set_option Elab.async false
set_option linter.all false
set_option maxRecDepth 100000
namespace H
open PySem PySem.Spec PyProof.Rows L2 Y
end H

set_option Elab.async false
set_option linter.all false
set_option maxRecDepth 100000
namespace H
open PySem PySem.Spec PyProof.Rows L2 Y
end H

set_option Elab.async false
set_option linter.all false
set_option maxRecDepth 100000
namespace H
open PySem PySem.Spec PyProof.Rows L2 Y
end H

set_option Elab.async false
set_option linter.all false
set_option maxRecDepth 100000
namespace H
open PySem PySem.Spec PyProof.Rows L2 Y
end H

set_option Elab.async false
set_option linter.all false
set_option maxRecDepth 100000
namespace H
open PySem PySem.Spec PyProof.Rows L2 Y
end H

set_option Elab.async false
set_option linter.all false
set_option maxRecDepth 100000
namespace H
open PySem PySem.Spec PyProof.Rows L2 Y
end H

set_option Elab.async false
set_option linter.all false
set_option maxRecDepth 100000
namespace H
open PySem PySem.Spec PyProof.Rows L2 Y
end H

set_option Elab.async false
set_option linter.all false
set_option maxRecDepth 100000
namespace H
open PySem PySem.Spec PyProof.Rows L2 Y
end H

set_option Elab.async false
set_option linter.all false
set_option maxRecDepth 100000
namespace H
open PySem PySem.Spec PyProof.Rows L2 Y
end H

set_option Elab.async false
set_option linter.all false
set_option maxRecDepth 100000
namespace H
open PySem PySem.Spec PyProof.Rows L2 Y
end H

set_option Elab.async false
set_option linter.all false
set_option maxRecDepth 100000
namespace H
open PySem PySem.Spec PyProof.Rows L2 Y
theorem mem_rg {m : Nat} {x : Int} : x ∈ rgI m ↔ 0 ≤ x ∧ x < m := by
  unfold rgI
  rw [List.mem_map]
  constructor
  · rintro ⟨k, hk, rfl⟩
    have := List.mem_range.mp hk
    omega
  · rintro ⟨h1, h2⟩
    exact ⟨x.toNat, List.mem_range.mpr (by omega), by omega⟩
end H

set_option Elab.async false
set_option linter.all false
set_option maxRecDepth 100000
namespace H
open PySem PySem.Spec PyProof.Rows L2 Y
def RiseI (r : List Int) : Prop := r.Pairwise (· < ·)
end H

set_option Elab.async false
set_option linter.all false
set_option maxRecDepth 100000
namespace H
open PySem PySem.Spec PyProof.Rows L2 Y
def pB (ss : List SeT) (k i j : Nat) : Bool := decide ((ss.getD i ([], 0, 0)).2.1 = k) && (decide ((ss.getD j ([], 0, 0)).2.1 = k) && !decide ((ss.getD i ([], 0, 0)).2.2 = (ss.getD j ([], 0, 0)).2.2))
section
variable {ss : List SeT} {k : Nat}
end
end H

set_option Elab.async false
set_option linter.all false
set_option maxRecDepth 100000
namespace H
open PySem PySem.Spec PyProof.Rows L2 Y
end H

set_option Elab.async false
set_option linter.all false
set_option maxRecDepth 100000
namespace H
open PySem PySem.Spec PyProof.Rows L2 Y
end H

set_option Elab.async false
set_option linter.all false
set_option maxRecDepth 100000
namespace H
open PySem PySem.Spec PyProof.Rows L2 Y
end H

set_option Elab.async false
set_option linter.all false
set_option maxRecDepth 100000
namespace H
open PySem PySem.Spec PyProof.Rows L2 Y
end H

set_option Elab.async false
set_option linter.all false
set_option maxRecDepth 100000
namespace H
open PySem PySem.Spec PyProof.Rows L2 Y
end H

set_option Elab.async false
set_option linter.all false
set_option maxRecDepth 100000
namespace H
open PySem PySem.Spec PyProof.Rows L2 Y
def unI (a b : List Int) : List Int := ((List.range a.length).filter fun s => !decide (a.getD s 0 = b.getD s 0)).map fun s : Nat => (s : Int)
def unP (ss : List SeT) (i j : Nat) : List Int := unI (ss.getD i ([], 0, 0)).1 (ss.getD j ([], 0, 0)).1
end H

set_option Elab.async false
set_option linter.all false
set_option maxRecDepth 100000
namespace H
open PySem PySem.Spec PyProof.Rows L2 Y
end H

set_option Elab.async false
set_option linter.all false
set_option maxRecDepth 100000
namespace H
open PySem PySem.Spec PyProof.Rows L2 Y
end H

set_option Elab.async false
set_option linter.all false
set_option maxRecDepth 100000
namespace H
open PySem PySem.Spec PyProof.Rows L2 Y
end H

set_option Elab.async false
set_option linter.all false
set_option maxRecDepth 100000
namespace H
open PySem PySem.Spec PyProof.Rows L2 Y
section
variable {U : List (List Int)} {m : Nat}
end
end H

set_option Elab.async false
set_option linter.all false
set_option maxRecDepth 100000
namespace H
open PySem PySem.Spec PyProof.Rows L2 Y
def dPr (p : Nat × Nat) : D := .tup [.int p.1, .int p.2]
section
variable {ss : List SeT} {m k : Nat}
end
end H

set_option Elab.async false
set_option linter.all false
set_option maxRecDepth 100000
namespace H
open PySem PySem.Spec PyProof.Rows L2 Y
section
variable {ss : List SeT} {m k : Nat}
end
end H

set_option Elab.async false
set_option linter.all false
set_option maxRecDepth 100000
namespace H
open PySem PySem.Spec PyProof.Rows L2 Y
def spB (ss : List SeT) (k bit : Int) (x : Nat) : Bool := decide ([((ss.getD x ([], 0, 0)).2.1 : Int), (ss.getD x ([], 0, 0)).2.2] = [k, bit])
def spL (ss : List SeT) (k bit : Int) : List Nat := (List.range ss.length).filter (spB ss k bit)
abbrev nD (L : List Nat) : D := .lst (L.map fun x : Nat => D.int (x : Nat))
section
variable {ss : List SeT} {m k : Nat}
end
end H

set_option Elab.async false
set_option linter.all false
set_option maxRecDepth 100000
namespace H
open PySem PySem.Spec PyProof.Rows L2 Y
section
variable {k m : Nat} {e : List Int} {s : SeT}
end
end H

set_option Elab.async false
set_option linter.all false
set_option maxRecDepth 100000
namespace H
open PySem PySem.Spec PyProof.Rows L2 Y
section
variable {k m : Nat} {e : List Int} {ss : List SeT}
end
end H

set_option Elab.async false
set_option linter.all false
set_option maxRecDepth 100000
namespace H
open PySem PySem.Spec PyProof.Rows L2 Y
section
variable {k m : Nat} {ss : List SeT}
end
end H

set_option Elab.async false
set_option linter.all false
set_option maxRecDepth 100000
namespace H
open PySem PySem.Spec PyProof.Rows L2 Y
end H

set_option Elab.async false
set_option linter.all false
set_option maxRecDepth 100000
namespace H
open PySem PySem.Spec PyProof.Rows L2 Y
end H

set_option Elab.async false
set_option linter.all false
set_option maxRecDepth 100000
namespace H
open PySem PySem.Spec PyProof.Rows L2 Y
def unQ (ss : List SeT) (p : Nat × Nat) : List Int := unP ss p.1 p.2
def stepPr (ss : List SeT) (k : Nat) (L : List (Nat × Nat)) (i j : Nat) : List (Nat × Nat) := if pB ss k i j = true then (if unP ss i j ∈ L.map (unQ ss) then L else L ++ [(i, j)]) else L
section
variable {ss : List SeT} {m k : Nat}
structure PInv (ss : List SeT) (k : Nat) (L : List (Nat × Nat)) (Q : Nat → Nat → Prop) : Prop where
  ok : ∀ p ∈ L, p.1 < ss.length ∧ p.2 < ss.length ∧ pB ss k p.1 p.2 = true
  all : ∀ i j, Q i j → pB ss k i j = true → unP ss i j ∈ L.map (unQ ss)
theorem PInv.step {L : List (Nat × Nat)} {Q Q' : Nat → Nat → Prop} {i j : Nat} (h : PInv ss k L Q) (hi : i < ss.length) (hj : j < ss.length) (hq : ∀ a b, Q' a b → Q a b ∨ (a = i ∧ b = j)) : PInv ss k (stepPr ss k L i j) Q' ∧ (stepPr ss k L i j).length ≤ L.length + 1 := by
  unfold stepPr
  split
  · rename_i hp
    split
    · rename_i c
      refine ⟨⟨h.ok, fun a b q hb => ?_⟩, by omega⟩
      rcases hq a b q with q | ⟨rfl, rfl⟩
      · exact h.all a b q hb
      · exact c
    · refine ⟨⟨fun p hp' => ?_, fun a b q hb => ?_⟩, by simp⟩
      · rcases List.mem_append.mp hp' with e | e
        · exact h.ok p e
        · rw [List.mem_singleton.mp e]; exact ⟨hi, hj, hp⟩
      · rw [List.map_append]
        rcases hq a b q with q | ⟨rfl, rfl⟩
        · exact List.mem_append_left _ (h.all a b q hb)
        · exact List.mem_append_right _ (List.mem_singleton.mpr rfl)
  · rename_i hp
    refine ⟨⟨h.ok, fun a b q hb => ?_⟩, by omega⟩
    rcases hq a b q with q | ⟨rfl, rfl⟩
    · exact h.all a b q hb
    · exact absurd hb hp
end
end H

set_option Elab.async false
set_option linter.all false
set_option maxRecDepth 100000
namespace H
open PySem PySem.Spec PyProof.Rows L2 Y
def itE (ss : List SeT) (p : Nat × Nat) : D := .tup [ti (unQ ss p), dPr p]
def pI (p : Nat × Nat) : List Int := [(p.1 : Int), (p.2 : Int)]
section
variable {ss : List SeT} {m k : Nat}
end
end H

set_option Elab.async false
set_option linter.all false
set_option maxRecDepth 100000
namespace H
open PySem PySem.Spec PyProof.Rows L2 Y
section
variable {ss : List SeT} {m k : Nat}
end
end H

set_option Elab.async false
set_option linter.all false
set_option maxRecDepth 100000
namespace H
open PySem PySem.Spec PyProof.Rows L2 Y
section
variable {ss : List SeT} {m k : Nat} {PL : List (Nat × Nat)}
end
end H

set_option Elab.async false
set_option linter.all false
set_option maxRecDepth 100000
namespace H
open PySem PySem.Spec PyProof.Rows L2 Y
section
variable {k m : Nat} {e : List Int} {ss : List SeT}
end
end H

set_option Elab.async false
set_option linter.all false
set_option maxRecDepth 100000
namespace H
open PySem PySem.Spec PyProof.Rows L2 Y
section
variable {k m : Nat} {e : List Int} {ss : List SeT}
end
end H

set_option Elab.async false
set_option linter.all false
set_option maxRecDepth 100000
namespace H
open PySem PySem.Spec PyProof.Rows L2 Y
theorem ext_getD {a b : List Int} (hl : a.length = b.length) (h : ∀ i, i < a.length → a.getD i 0 = b.getD i 0) : a = b := by
  refine List.ext_getElem hl fun i h1 h2 => ?_
  have := h i h1
  rw [List.getD_eq_getElem?_getD, List.getD_eq_getElem?_getD, List.getElem?_eq_getElem h1, List.getElem?_eq_getElem h2] at this
  exact this
theorem map_rg {n i : Nat} {f : Nat → Int} (h : i < n) : ((List.range n).map f).getD i 0 = f i := by
  rw [List.getD_eq_getElem?_getD, List.getElem?_map, List.getElem?_range h]
  rfl
section
variable {r : RuleT}
def zapTo (r : RuleT) (j : Nat) (st : List Int) : List Int := (List.range r.1.length).map fun i => if i < j ∧ heardB r i = false then 0 else st.getD i 0
theorem zap_len {j : Nat} {st : List Int} : (zapTo r j st).length = r.1.length := by unfold zapTo; rw [List.length_map, List.length_range]
theorem zap_st {j : Nat} {st : List Int} (h : IsSt r.1.length st) : IsSt r.1.length (zapTo r j st) := ⟨zap_len, fun x hx => by
  obtain ⟨i, _, rfl⟩ := List.mem_map.mp hx
  split
  · omega
  · exact h.get i⟩
theorem zap_tol {st : List Int} (h : IsSt r.1.length st) : ∀ {j : Nat}, j ≤ r.1.length → tolI r (zapTo r j st) = tolI r st
  | 0, _ => by
    have : zapTo r 0 st = st := ext_getD (by rw [zap_len, h.len]) fun i hi => by
      rw [zap_len] at hi
      unfold zapTo
      rw [map_rg hi, if_neg (by omega)]
    rw [this]
  | j + 1, hj => by
    have ih := zap_tol h (j := j) (by omega)
    rw [← ih]
    have zs := zap_st h (j := j)
    cases c : heardB r j with
    | true =>
      have : zapTo r (j + 1) st = zapTo r j st := ext_getD (by rw [zap_len, zap_len]) fun i hi => by
        rw [zap_len] at hi
        unfold zapTo
        rw [map_rg hi, map_rg hi]
        by_cases e : i = j
        · subst e
          rw [if_neg (by rw [c]; simp), if_neg (by rw [c]; simp)]
        · have : (i < j + 1 ∧ heardB r i = false) ↔ (i < j ∧ heardB r i = false) := by
            constructor
            · rintro ⟨a, b⟩; exact ⟨by omega, b⟩
            · rintro ⟨a, b⟩; exact ⟨by omega, b⟩
          simp only [this]
      rw [this]
    | false =>
      have e : zapTo r (j + 1) st = withI (zapTo r j st) j 0 := ext_getD (by rw [zap_len, withI_len (by rw [zap_len]; omega), zap_len]) fun i hi => by
        rw [zap_len] at hi
        by_cases e : i = j
        · subst e
          rw [withI_at (by rw [zap_len]; exact hi)]
          unfold zapTo
          rw [map_rg hi, if_pos ⟨by omega, c⟩]
        · rw [withI_off (by rw [zap_len]; omega) e]
          unfold zapTo
          rw [map_rg hi, map_rg hi]
          have : (i < j + 1 ∧ heardB r i = false) ↔ (i < j ∧ heardB r i = false) := by
            constructor
            · rintro ⟨a, b⟩; exact ⟨by omega, b⟩
            · rintro ⟨a, b⟩; exact ⟨by omega, b⟩
          simp only [this]
      unfold heardB at c
      rw [List.any_eq_false] at c
      have := c _ (mem_stands.mpr zs)
      rw [e]
      exact (by simpa using this : tolI r (zapTo r j st) = _).symm
theorem tol_same {a b : List Int} (ha : IsSt r.1.length a) (hb : IsSt r.1.length b) (h : ∀ i, i < r.1.length → heardB r i = true → a.getD i 0 = b.getD i 0) : tolI r a = tolI r b := by
  rw [← zap_tol ha (Nat.le_refl _), ← zap_tol hb (Nat.le_refl _)]
  have : zapTo r r.1.length a = zapTo r r.1.length b := by
    unfold zapTo
    refine List.map_congr_left fun i hi => ?_
    have hi := List.mem_range.mp hi
    cases c : heardB r i with
    | true => rw [if_neg (by simp), if_neg (by simp)]; exact h i hi c
    | false => rw [if_pos ⟨hi, rfl⟩, if_pos ⟨hi, rfl⟩]
  rw [this]
/-- what the ears of r read -/
def rdE (r : RuleT) (S : List Int) : List Int := r.1.map fun e => S.getD e.toNat 0
theorem rd_at {S : List Int} {i : Nat} (h : i < r.1.length) : (rdE r S).getD i 0 = S.getD (r.1.getD i 0).toNat 0 := by
  unfold rdE
  rw [List.getD_eq_getElem?_getD, List.getElem?_map, List.getElem?_eq_getElem h]
  have : r.1.getD i 0 = r.1[i] := by rw [List.getD_eq_getElem?_getD, List.getElem?_eq_getElem h]; rfl
  rw [this]
  rfl
theorem rd_st {m : Nat} {S : List Int} (h : IsSt m S) : IsSt r.1.length (rdE r S) := ⟨by unfold rdE; rw [List.length_map], fun x hx => by
  obtain ⟨e, _, rfl⟩ := List.mem_map.mp hx
  exact h.get _⟩
theorem thU_eq : thU r r.1.length = (hpL r).map fun k => r.1.getD k 0 := rfl
theorem thU_rise {m : Nat} (ok : RuleOk m r) : RiseI (thU r r.1.length) ∧ (∀ j ∈ thU r r.1.length, j ∈ rgI m) ∧ (thU r r.1.length).length ≤ 4 := by
  obtain ⟨es, e1, sub⟩ := ok.sub
  have rs : RiseI r.1 := by
    rw [e1]
    refine List.Pairwise.map _ (fun a b h => ?_) (List.Pairwise.sublist sub List.pairwise_lt_range)
    omega
  have inn : ∀ j ∈ thU r r.1.length, j ∈ r.1 := fun j hj => by
    obtain ⟨k, hk, rfl⟩ := List.mem_map.mp hj
    have := (hpL_lt hk).1
    rw [List.getD_eq_getElem?_getD, List.getElem?_eq_getElem this]
    exact List.getElem_mem this
  refine ⟨?_, fun j hj => ?_, ?_⟩
  · unfold RiseI at rs ⊢
    rw [thU_eq]
    have lt : (hpL r).Pairwise (· < ·) := List.Pairwise.sublist List.filter_sublist List.pairwise_lt_range
    refine List.pairwise_map.mpr (lt.imp_of_mem fun {a b} ha hb hab => ?_)
    have h1 := (hpL_lt ha).1
    have h2 := (hpL_lt hb).1
    rw [List.getD_eq_getElem?_getD, List.getElem?_eq_getElem h1, List.getD_eq_getElem?_getD, List.getElem?_eq_getElem h2]
    exact List.pairwise_iff_getElem.mp rs a b h1 h2 hab
  · have := inn j hj
    rw [e1] at this
    obtain ⟨x, hx, rfl⟩ := List.mem_map.mp this
    have := List.mem_range.mp (sub.subset hx)
    exact mem_rg.mpr ⟨by omega, by omega⟩
  · have := thU_len (r := r) (i := r.1.length)
    have := ok.len
    omega
end
section
variable {ns : List RuleT} {most k : Nat} {ss : List SeT}
theorem ought_tolR {S : List Int} : oughtI ns S k = tolI (ns.getD k ([], [])) (rdE (ns.getD k ([], [])) S) := rfl
theorem net_rule (ok : NetOk ns most) (hk : k < ns.length) : RuleOk ns.length (ns.getD k ([], [])) := by
  rw [List.getD_eq_getElem?_getD, List.getElem?_eq_getElem hk]
  exact ok.rule _ (List.getElem_mem hk)
end
end H

set_option Elab.async false
set_option linter.all false
set_option maxRecDepth 100000
namespace H
open PySem PySem.Spec PyProof.Rows L2 Y
theorem getD_lt {α : Type} {xs : List α} {i : Nat} {d : α} (h : i < xs.length) : xs.getD i d = xs[i] := by
  rw [List.getD_eq_getElem?_getD, List.getElem?_eq_getElem h]; rfl
theorem getD_mapL {α β : Type} {xs : List α} {i : Nat} {f : α → β} {d : β} (h : i < xs.length) : (xs.map f).getD i d = f xs[i] := by
  rw [List.getD_eq_getElem?_getD, List.getElem?_map, List.getElem?_eq_getElem h]; rfl
section
variable {r : RuleT}
theorem spread_any {rd st : List Int} (hr : IsSt (hpL r).length rd) (hs : IsSt r.1.length st) (h : ∀ q (hq : q < (hpL r).length), rd.getD q 0 = st.getD (hpL r)[q] 0) : tolI r (spread r rd) = tolI r st := tol_same (spread_st hr) hs fun i hi c => by
  have hm : i ∈ hpL r := List.mem_filter.mpr ⟨List.mem_range.mpr hi, c⟩
  obtain ⟨q, hq, e⟩ := List.getElem_of_mem hm
  rw [← e, spread_at hr hq, h q hq]
theorem slim_len : (slimR r).1.length = (hpL r).length := by
  show (thU r r.1.length).length = _
  rw [thU_eq, List.length_map]
theorem slim_at {q : Nat} (hq : q < (hpL r).length) : (slimR r).1.getD q 0 = r.1.getD (hpL r)[q] 0 := by
  show (thU r r.1.length).getD q 0 = _
  rw [thU_eq, getD_mapL hq]
theorem slim_tol {rd : List Int} (h : IsSt (hpL r).length rd) : tolI (slimR r) rd = tolI r (spread r rd) := by
  show ((stands (hpL r).length).map fun rd => tolI r (spread r rd)).getD (placeI rd).toNat 0 = _
  rw [List.getD_eq_getElem?_getD, List.getElem?_map, stands_at h]
  rfl
theorem slim_lk (h : RuleLk r) : RuleLk (slimR r) := by
  refine ⟨?_, ?_, fun x hx => ?_⟩
  · rw [slim_len]
    have := hpP_len (r := r) (i := r.1.length)
    have := h.len
    unfold hpL
    omega
  · rw [slim_len]
    show ((stands (hpL r).length).map fun rd => tolI r (spread r rd)).length = _
    rw [List.length_map, stands_len]
  · have hx : x ∈ (stands (hpL r).length).map fun rd => tolI r (spread r rd) := hx
    obtain ⟨rd, _, rfl⟩ := List.mem_map.mp hx
    exact getD_bit h.bit _
theorem slim_ok4 {m : Nat} (h : RuleOk m r) : RuleOk m (slimR r) := by
  have k := slim_lk h.lk
  obtain ⟨t1, t2, t3⟩ := thU_rise h
  refine ⟨t3, ?_, k.tab, k.bit⟩
  obtain ⟨es, e1, sub⟩ := h.sub
  refine ⟨(hpL r).map fun k => es.getD k 0, ?_, ?_⟩
  · show thU r r.1.length = _
    rw [thU_eq, List.map_map]
    refine List.map_congr_left fun i hi => ?_
    have hi := (hpL_lt hi).1
    have hi2 : i < es.length := by rw [e1, List.length_map] at hi; exact hi
    rw [e1]
    show _ = ((es.getD i 0 : Nat) : Int)
    rw [getD_mapL hi2, getD_lt hi2]
  · refine List.Sublist.trans ?_ sub
    have hl : r.1.length = es.length := by rw [e1, List.length_map]
    have : ((List.range es.length).map fun k => es.getD k 0) = es := by
      refine List.ext_getElem (by simp) fun i h1 h2 => ?_
      rw [List.getElem_map, List.getElem_range, getD_lt h2]
    conv => rhs; rw [← this]
    exact List.Sublist.map _ (by rw [← hl]; exact List.filter_sublist)
end
section
variable {ns : List RuleT} {most : Nat}
theorem slim_getD {k : Nat} (hk : k < ns.length) : (ns.map slimR).getD k ([], []) = slimR (ns.getD k ([], [])) := by rw [getD_mapL hk, getD_lt hk]
theorem slim_net (ok : NetOk ns most) : NetOk (ns.map slimR) most := ⟨by rw [List.length_map]; exact ok.pos, by rw [List.length_map]; exact ok.le, fun r hr => by
  obtain ⟨q, hq, rfl⟩ := List.mem_map.mp hr
  rw [List.length_map]
  exact slim_ok4 (ok.rule q hq)⟩
theorem slim_ought (ok : NetOk ns most) {k : Nat} (hk : k < ns.length) {S : List Int} (hS : IsSt ns.length S) : oughtI (ns.map slimR) S k = oughtI ns S k := by
  rw [ought_tolR, ought_tolR, slim_getD hk]
  generalize ns.getD k ([], []) = r
  have h1 : IsSt (hpL r).length (rdE (slimR r) S) := by
    have := rd_st (r := slimR r) hS
    rwa [slim_len] at this
  rw [slim_tol h1]
  refine spread_any h1 (rd_st hS) fun q hq => ?_
  rw [rd_at (by rw [slim_len]; exact hq), slim_at hq, rd_at (hpL_lt (List.getElem_mem hq)).1]
end
end H

set_option Elab.async false
set_option linter.all false
set_option maxRecDepth 100000
namespace H
open PySem PySem.Spec PyProof.Rows L2 Y
section
variable {ns : List RuleT} {most k : Nat}
theorem rd_flip {m i : Nat} {r : RuleT} {S : List Int} (ok : RuleOk m r) (hS : IsSt m S) (hi : i < r.1.length) : rdE r (flipB S (r.1.getD i 0).toNat) = flipB (rdE r S) i := by
  obtain ⟨es, e1, nd, lt⟩ := ok.nats
  have hl : r.1.length = es.length := by rw [e1, List.length_map]
  have ea : ∀ j (hj : j < es.length), r.1.getD j 0 = (es[j] : Int) := fun j hj => by rw [e1, getD_mapL hj]
  have hlr : (rdE r S).length = r.1.length := by unfold rdE; rw [List.length_map]
  refine ext_getD (by rw [(flpB_st (rd_st hS) hi).len]; unfold rdE; rw [List.length_map]) fun j hj => ?_
  have hj2 : j < r.1.length := by unfold rdE at hj; rwa [List.length_map] at hj
  clear hj
  rw [rd_at hj2, ea i (by omega), ea j (by omega), Int.toNat_natCast, Int.toNat_natCast]
  unfold flipB
  have li : es[i] < S.length := by rw [hS.len]; exact lt _ (List.getElem_mem _)
  by_cases c : j = i
  · subst c
    rw [withI_at li, withI_at (by omega), rd_at hj2, ea j (by omega), Int.toNat_natCast]
  · rw [withI_off li (fun z => c ((List.getElem_inj nd).mp z)), withI_off (by omega) c, rd_at hj2, ea j (by omega), Int.toNat_natCast]
theorem rd_flip_off {m j : Nat} {r : RuleT} {S : List Int} (ok : RuleOk m r) (hS : IsSt m S) (hj : j < m) (h : (j : Int) ∉ r.1) : rdE r (flipB S j) = rdE r S := by
  unfold rdE
  refine List.map_congr_left fun e he => ?_
  obtain ⟨es, e1, nd, lt⟩ := ok.nats
  rw [e1] at he
  obtain ⟨x, hx, rfl⟩ := List.mem_map.mp he
  rw [Int.toNat_natCast]
  unfold flipB
  rw [withI_off (by rw [hS.len]; exact hj)]
  intro z
  exact h (by rw [e1]; exact List.mem_map.mpr ⟨x, hx, by rw [z]⟩)
/-- what stands at a key -/
def lkI : List Int → List Int → Int → Int
  | e :: E, v :: V, k => if e = k then v else lkI E V k
  | _, _, _ => 0
theorem lkI_at : ∀ {E V : List Int} {q : Nat} (hq : q < E.length), E.Nodup → E.length = V.length → lkI E V E[q] = V.getD q 0
  | e :: E, v :: V, 0, _, _, _ => if_pos rfl
  | e :: E, v :: V, q + 1, hq, nd, hl => by
    obtain ⟨n1, n2⟩ := List.nodup_cons.mp nd
    have hq : q < E.length := by simpa using hq
    show (if e = E[q] then v else lkI E V E[q]) = V.getD q 0
    rw [if_neg fun z => n1 (by rw [z]; exact List.getElem_mem hq)]
    exact lkI_at hq n2 (by simpa using hl)
theorem lkI_bit : ∀ {E V : List Int} {k : Int}, (∀ x ∈ V, 0 ≤ x ∧ x < 2) → 0 ≤ lkI E V k ∧ lkI E V k < 2
  | [], V, k, h => by cases V <;> exact ⟨Int.le_refl _, by show (0 : Int) < 2; decide⟩
  | e :: E, [], k, h => ⟨Int.le_refl _, by show (0 : Int) < 2; decide⟩
  | e :: E, v :: V, k, h => by
    show 0 ≤ (if e = k then v else lkI E V k) ∧ (if e = k then v else lkI E V k) < 2
    split
    · exact h v (by simp)
    · exact lkI_bit fun x hx => h x (by simp [hx])
end
end H

set_option Elab.async false
set_option linter.all false
set_option maxRecDepth 100000
namespace H
open PySem PySem.Spec PyProof.Rows L2 Y
section
variable {ns : List RuleT} {most k : Nat}
end
end H

set_option Elab.async false
set_option linter.all false
set_option maxRecDepth 100000
namespace H
open PySem PySem.Spec PyProof.Rows L2 Y
theorem nin_tiZ {x : Int} {xs : List Int} : ninD (.int x) (ti xs) = .ok (.bl (!decide (x ∈ xs))) := by
  have c1 : (xs.map D.int).all flatD = true := by
    rw [List.all_eq_true]
    intro d hd
    obtain ⟨y, _, rfl⟩ := List.mem_map.mp hd
    rfl
  have e : ((xs.map D.int).any fun z => eqP z (.int x)) = decide (x ∈ xs) := by
    rw [List.any_map, Bool.eq_iff_iff, List.any_eq_true, decide_eq_true_eq]
    constructor
    · rintro ⟨y, hy, h⟩
      have : eqP (.int y) (.int x) = true := h
      rw [eqP_int, beq_iff_eq] at this
      rw [← this]; exact hy
    · intro h
      exact ⟨x, h, by show eqP (.int x) (.int x) = true; rw [eqP_int]; simp⟩
  show (match (if (flatD (.int x) && (xs.map D.int).all flatD) = true then some ((xs.map D.int).any fun z => eqP z (.int x)) else none) with | some b => R.ok (D.bl (!b)) | none => .stk) = _
  rw [c1, e]
  rfl
theorem rng_sub : ∀ {n a : Nat} {es : List Nat}, es.Pairwise (· < ·) → (∀ x ∈ es, a ≤ x ∧ x < a + n) → es.Sublist (List.range' a n)
  | 0, a, es, _, h => by
    cases es with
    | nil => exact List.nil_sublist _
    | cons x es => have := h x (by simp); omega
  | n + 1, a, es, hp, h => by
    rw [List.range'_succ]
    cases es with
    | nil => exact List.nil_sublist _
    | cons x es =>
      obtain ⟨h1, h2⟩ := List.pairwise_cons.mp hp
      by_cases c : x = a
      · subst c
        refine List.Sublist.cons₂ _ (rng_sub h2 fun y hy => ?_)
        have := h1 y hy
        have := h y (by simp [hy])
        omega
      · refine List.Sublist.cons _ (rng_sub hp fun y hy => ?_)
        have h0 := h x (by simp)
        have := h y hy
        rcases List.mem_cons.mp hy with rfl | hy
        · omega
        · have := h1 y hy
          omega
end H

set_option Elab.async false
set_option linter.all false
set_option maxRecDepth 100000
namespace H
open PySem PySem.Spec PyProof.Rows L2 Y
section
variable {m : Nat}
end
end H

set_option Elab.async false
set_option linter.all false
set_option maxRecDepth 100000
namespace H
open PySem PySem.Spec PyProof.Rows L2 Y
end H

set_option Elab.async false
set_option linter.all false
set_option maxRecDepth 100000
set_option maxHeartbeats 2000000
namespace H
open PySem PySem.Spec PyProof.Rows L2 Y
end H

set_option Elab.async false
set_option linter.all false
set_option maxRecDepth 100000
set_option maxHeartbeats 2000000
namespace H
open PySem PySem.Spec PyProof.Rows L2 Y
section
variable {a b : List RuleT} {x y : List Int} {p q : Nat}
end
end H

set_option Elab.async false
set_option linter.all false
set_option maxRecDepth 100000
set_option maxHeartbeats 2000000
namespace H
open PySem PySem.Spec PyProof.Rows L2 Y
end H

set_option Elab.async false
set_option linter.all false
set_option maxRecDepth 100000
set_option maxHeartbeats 2000000
namespace H
open PySem PySem.Spec PyProof.Rows L2 Y
section
variable {a b : List RuleT} {x y z : List Int} {p q : Nat}
end
end H

set_option Elab.async false
set_option linter.all false
set_option maxRecDepth 100000
set_option maxHeartbeats 2000000
namespace H
open PySem PySem.Spec PyProof.Rows L2 Y
section
variable {a b : List RuleT} {x y : List Int} {p q : Nat}
end
end H

set_option Elab.async false
set_option linter.all false
set_option maxRecDepth 100000
namespace H
open PySem PySem.Spec PyProof.Rows L2 Y
end H

set_option Elab.async false
set_option linter.all false
set_option maxRecDepth 100000
set_option maxHeartbeats 2000000
namespace H
open PySem PySem.Spec PyProof.Rows L2 Y
section
variable {a b : List RuleT} {p q : Nat}
end
end H

set_option Elab.async false
set_option linter.all false
set_option maxRecDepth 100000
set_option maxHeartbeats 2000000
namespace H
open PySem PySem.Spec PyProof.Rows L2 Y
end H

set_option Elab.async false
set_option linter.all false
set_option maxRecDepth 100000
set_option maxHeartbeats 2000000
namespace H
open PySem PySem.Spec PyProof.Rows L2 Y
end H

set_option Elab.async false
set_option linter.all false
set_option maxRecDepth 100000
set_option maxHeartbeats 2000000
namespace H
open PySem PySem.Spec PyProof.Rows L2 Y
end H

set_option Elab.async false
set_option linter.all false
set_option maxRecDepth 100000
set_option maxHeartbeats 2000000
namespace H
open PySem PySem.Spec PyProof.Rows L2 Y
inductive Cn (E : Nat → Nat → Prop) (a : Nat) : Nat → Prop
  | rfl : Cn E a a
  | step {b c : Nat} : Cn E a b → (E b c ∨ E c b) → Cn E a c
section
variable {E : Nat → Nat → Prop} {n : Nat}
theorem Cn.trans {a b c : Nat} (h : Cn E a b) (k : Cn E b c) : Cn E a c := by
  induction k with
  | rfl => exact h
  | step _ e ih => exact .step ih e
theorem Cn.one {a b : Nat} (h : E a b ∨ E b a) : Cn E a b := .step .rfl h
theorem Cn.symm {a b : Nat} (h : Cn E a b) : Cn E b a := by
  induction h with
  | rfl => exact .rfl
  | step _ e ih => exact (Cn.one e.symm).trans ih
end
end H

set_option Elab.async false
set_option linter.all false
set_option maxRecDepth 100000
set_option maxHeartbeats 2000000
namespace H
open PySem PySem.Spec PyProof.Rows L2 Y
section
variable {W : Nat → List Nat} {left : List Nat}
variable {E : Nat → Nat → Prop} {h : Nat}
end
end H

set_option Elab.async false
set_option linter.all false
set_option maxRecDepth 100000
set_option maxHeartbeats 2000000
namespace H
open PySem PySem.Spec PyProof.Rows L2 Y
section
variable {E1 E2 E : Nat → Nat → Prop} {m n : Nat}
end
end H

set_option Elab.async false
set_option linter.all false
set_option maxRecDepth 100000
set_option maxHeartbeats 2000000
namespace H
open PySem PySem.Spec PyProof.Rows L2 Y
end H

set_option Elab.async false
set_option linter.all false
set_option maxRecDepth 100000
set_option maxHeartbeats 2000000
namespace H
open PySem PySem.Spec PyProof.Rows L2 Y
section
variable {E : Nat → Nat → Prop} {n : Nat}
end
end H

set_option Elab.async false
set_option linter.all false
set_option maxRecDepth 100000
set_option maxHeartbeats 2000000
namespace H
open PySem PySem.Spec PyProof.Rows L2 Y
section
variable {ns : List RuleT} {most : Nat}
end
end H

set_option Elab.async false
set_option linter.all false
set_option maxRecDepth 100000
set_option maxHeartbeats 2000000
namespace H
open PySem PySem.Spec PyProof.Rows L2 Y
theorem find_inl {f : Nat → D} {k : Nat} : ∀ {ks : List Nat}, k ∈ ks → findD (ks.map fun k : Nat => (Sum.inl (k : Int) : Key)) (ks.map f) (Sum.inl (k : Int)) = some (f k)
  | [], h => by cases h
  | j :: ks, h => by
    show (if (Sum.inl (j : Int) : Key) = Sum.inl (k : Int) then some (f j) else findD _ _ _) = _
    by_cases c : j = k
    · rw [if_pos (by rw [c]), c]
    · have n : ¬ (Sum.inl (j : Int) : Key) = Sum.inl (k : Int) := fun z => c (by have := Sum.inl.inj z; omega)
      rw [if_neg n]
      rcases List.mem_cons.mp h with e | h
      · exact absurd e.symm c
      · exact find_inl h
section
variable {ns : List RuleT} {most : Nat}
end
end H

set_option Elab.async false
set_option linter.all false
set_option maxRecDepth 100000
set_option maxHeartbeats 2000000
namespace H
open PySem PySem.Spec PyProof.Rows L2 Y
section
variable {ns : List RuleT} {most : Nat} {left : List Nat} {h : Nat}
end
end H

set_option Elab.async false
set_option linter.all false
set_option maxRecDepth 100000
set_option maxHeartbeats 2000000
namespace H
open PySem PySem.Spec PyProof.Rows L2 Y
end H

set_option Elab.async false
set_option linter.all false
set_option maxRecDepth 100000
set_option maxHeartbeats 2000000
namespace H
open PySem PySem.Spec PyProof.Rows L2 Y
section
variable {ns : List RuleT} {most : Nat} {left : List Nat} {h : Nat}
end
end H

set_option Elab.async false
set_option linter.all false
set_option maxRecDepth 100000
set_option maxHeartbeats 2000000
namespace H
open PySem PySem.Spec PyProof.Rows L2 Y
section
variable {ns : List RuleT} {most : Nat}
end
section
variable {a b : List RuleT} {p q : Nat}
end
end H

set_option Elab.async false
set_option linter.all false
set_option maxRecDepth 100000
set_option maxHeartbeats 2000000
namespace H
open PySem PySem.Spec PyProof.Rows L2 Y
end H

set_option Elab.async false
set_option linter.all false
set_option maxRecDepth 100000
set_option maxHeartbeats 2000000
namespace H
open PySem PySem.Spec PyProof.Rows L2 Y
/-- the places of the names E -/
def plD (E : List Nat) : D := .dik (E.map fun k : Nat => (Sum.inl (k : Int) : Key)) (E.map fun k => D.int (E.idxOf k : Nat))
theorem get_plD {E : List Nat} {k : Nat} (hk : k ∈ E) : getDic (plD E) (.int (k : Nat)) = .ok (some (.int (E.idxOf k : Nat))) := by
  show R.ok (findD _ _ (Sum.inl (k : Int))) = _
  rw [find_inl (f := fun k => D.int (E.idxOf k : Nat)) hk]
theorem find_lk : ∀ {N V : List Int} {k : Int}, N.length = V.length → k ∈ N → findD (kt N) (V.map D.int) (Sum.inl k) = some (.int (lkI N V k))
  | [], V, k, _, h => by cases h
  | e :: N, [], k, h, _ => by simp at h
  | e :: N, v :: V, k, hl, h => by
    show (if (Sum.inl e : Key) = Sum.inl k then some (D.int v) else findD (kt N) (V.map D.int) (Sum.inl k)) = some (D.int (if e = k then v else lkI N V k))
    by_cases c : e = k
    · rw [if_pos (by rw [c]), if_pos c]
    · rw [if_neg (fun z => c (Sum.inl.inj z)), if_neg c]
      rcases List.mem_cons.mp h with z | h
      · exact absurd z.symm c
      · exact find_lk (by simpa using hl) h
section
variable {m : Nat} {r : RuleT} {E : List Nat}
end
end H

set_option Elab.async false
set_option linter.all false
set_option maxRecDepth 100000
set_option maxHeartbeats 2000000
namespace H
open PySem PySem.Spec PyProof.Rows L2 Y
section
variable {ns : List RuleT} {most : Nat} {E : List Nat}
def plI (E : List Nat) (i : Nat) : D := .dik ((E.take i).map fun k : Nat => (Sum.inl (k : Int) : Key)) ((E.take i).map fun k => D.int (E.idxOf k : Nat))
theorem idx_at : ∀ {E : List Nat} {i : Nat} (h : i < E.length), E.Nodup → E.idxOf E[i] = i := fun {E i} h nd => by
  have hm : E[i] ∈ E := List.getElem_mem h
  have hl := List.idxOf_lt_length_of_mem hm
  exact (List.getElem_inj nd).mp (List.getElem_idxOf hl)
def lastE (E : List Nat) : Nat → Option D
  | 0 => none
  | i + 1 => some (.int (E.getD i 0 : Nat))
end
end H

set_option Elab.async false
set_option linter.all false
set_option maxRecDepth 100000
namespace H
open PySem PySem.Spec PyProof.Rows L2 Y
abbrev tf (xs : List Int) : D := .ftu (xs.map D.int)
abbrev dRuleF (r : RuleT) : D := .tup [tf r.1, ti r.2]
abbrev dNetF (ns : List RuleT) : D := .tup (ns.map dRuleF)
theorem ruleF_ok {n : Int} {m : Nat} (hm : m ≤ 100) : ∃ (r : RuleT) (n' : Int), C.g__law_rule_3 [.lst [.int n], .int m] = .ok (.fr (dRuleF r), [some (.lst [.int n']), none]) ∧ RuleOk m r := by
  obtain ⟨es, n1, h1, sub⟩ := comp_exF (tm := tmName 9) (t := C.t__law_rule_3_1) (e := C.e__law_rule_3_1) (vs := [9]) (ws := []) (fun j : Nat => D.int (j : Nat)) (fun j : Nat => D.int (j : Nat)) (fun b : Int => [some (.lst [.int b]), some (.int m), none, none, none, none, none, none, none, none]) (List.range m) n (fun b j hj => by
    refine ⟨decide (b % 3 = 0), b / 3, ?_, by simp⟩
    simp only [turnC, C.t__law_rule_3_1, C.e__law_rule_3_1]
    simp [take_ok]
    split <;> rfl)
  generalize hE : (es.take 4).map (fun j : Nat => (j : Int)) = E
  have hE2 : (es.take 4).map (fun j : Nat => D.int (j : Nat)) = E.map D.int := by rw [← hE, List.map_map]; rfl
  have hL : E.length ≤ 4 := by rw [← hE]; simp; omega
  have hS : 1 ≤ 2 ^ E.length ∧ 2 ^ E.length ≤ 16 := ⟨Nat.pow_pos (by omega), Nat.pow_le_pow_right (n := 2) (by omega) hL⟩
  have hT : 1 ≤ 2 ^ 2 ^ E.length ∧ 2 ^ 2 ^ E.length ≤ 65536 := ⟨Nat.pow_pos (by omega), Nat.pow_le_pow_right (n := 2) (by omega) hS.2⟩
  have s1 := shl1 (k := E.length) (by omega)
  have s2 := shl1 (k := 2 ^ E.length) (by omega)
  have c4 : Y.cutD (es.map (fun j : Nat => D.int (j : Nat))) none (some 4) = E.map D.int := by
    rw [← hE2, List.map_take]
    exact cut_hi (k := 4)
  have rok : ∀ t : List Int, t.length = 2 ^ E.length → (∀ x ∈ t, 0 ≤ x ∧ x < 2) → RuleOk m (E, t) := fun t h1 h2 => ⟨hL, ⟨es.take 4, hE.symm, (List.take_sublist 4 es).trans sub⟩, h1, h2⟩
  have rm : rngOk m = true := rngOk_of (by omega) (by omega)
  have zm : szOk m = true := szOk_of (by omega)
  generalize 2 ^ 2 ^ E.length = T at *
  generalize hSe : 2 ^ E.length = S at *
  have rS : rngOk S = true := rngOk_of (by omega) (by omega)
  have zS : szOk S = true := szOk_of (by omega)
  have tk : ∀ (b : Int) (k : Nat), 1 ≤ k → k ≤ 65536 → C.g__law_take [.lst [.int b], .int k] = .ok (.vl (.int (b % k)), [some (.lst [.int (b / k)]), none]) := fun b k h1 h2 => take_ok (by omega) (by omega)
  have tS := fun b : Int => tk b S hS.1 (by omega)
  have tT := fun b : Int => tk b T hT.1 hT.2
  by_cases way : 0 < n1 % 3
  · -- bits drawn
    let f : Nat → Int := fun p => Builtin.bitAnd (n1 / 3 % T / 2 ^ p) 1
    have h2 : ∀ (a b c d e g : Option D), cCompL (tmName 8) cYes C.e__law_rule_3_2 [8] [] ((List.range S).map fun j : Nat => D.int (j : Nat)) [a, b, c, d, some (.int (n1 / 3 % T)), e, g, none, none, none] = .ok (((List.range S).map f).map D.int, [a, b, c, d, some (.int (n1 / 3 % T)), e, g, none, none, none]) := fun a b c d e g => by
      rw [List.map_map]
      exact comp_map (fun j : Nat => D.int (j : Nat)) (fun p => D.int (f p)) (List.range S) fun p hp => by
        simp only [turnC, C.e__law_rule_3_2]
        simp [f]
    refine ⟨(E, (List.range S).map f), n1 / 3 / T, ?_, rok _ (by simp) fun x hx => ?_⟩
    · simp only [C.g__law_rule_3, C.m__law_rule_3]
      simp [e_fnD, rm, zm, h1, c4, s1, s2, tS, tT, take_ok, way, rS, zS, h2, hS, hT, -d_shl]
    · obtain ⟨p, _, rfl⟩ := List.mem_map.mp hx
      exact bit1
  · -- by how many
    have t2 : ∀ b : Int, C.g__law_take [.lst [.int b], .int ((E.length : Nat) + 2)] = .ok (.vl (.int (b % ((E.length : Nat) + 2))), [some (.lst [.int (b / ((E.length : Nat) + 2))]), none]) := fun b => take_ok (by omega) (by omega)
    have rL : rngOk E.length = true := rngOk_of (by omega) (by omega)
    have zL : szOk E.length = true := szOk_of (by omega)
    let ms : Int := n1 / 3 % S
    let le : Int := n1 / 3 / S % ((E.length : Nat) + 2)
    let n4 : Int := n1 / 3 / S / ((E.length : Nat) + 2)
    let bt : Nat → Nat → Int := fun p j => Builtin.bitAnd (Builtin.bitXor p ms / 2 ^ j) 1
    let f : Nat → Int := fun p => if le ≤ ((List.range E.length).map (bt p)).sum then 1 else 0
    have h2 : ∀ p : Nat, ∀ (a b c d e g h : Option D), cCompL (tmName 9) cYes C.e__law_rule_3_3 [9] [] ((List.range E.length).map fun j : Nat => D.int (j : Nat)) [a, b, c, d, e, some (.int ms), g, h, some (.int p), none] = .ok (((List.range E.length).map (bt p)).map D.int, [a, b, c, d, e, some (.int ms), g, h, some (.int p), none]) := fun p a b c d e g h => by
      rw [List.map_map]
      exact comp_map (fun j : Nat => D.int (j : Nat)) (fun j => D.int (bt p j)) (List.range E.length) fun j hj => by
        simp only [turnC, C.e__law_rule_3_3]
        simp [bt]
    have h3 : forL (tmName 8) C.b__law_rule_3_1 [8] [] ((List.range S).map fun j : Nat => D.int (j : Nat)) [some (.lst [.int n4]), some (.int m), some (tf E), some (.int S), none, some (.int ms), some (.int le), some (.lst []), none, none] = .ok (.nx, [some (.lst [.int n4]), some (.int m), some (tf E), some (.int S), none, some (.int ms), some (.int le), some (.lst (((List.range S).map f).map D.int)), none, none]) :=
      for_rng (fun j : Nat => D.int (j : Nat)) (fun j => [some (.lst [.int n4]), some (.int m), some (tf E), some (.int S), none, some (.int ms), some (.int le), some (.lst (((List.range j).map f).map D.int)), none, none]) fun j hj => by
        refine ⟨by simp, ?_⟩
        have z1 : szOk (j + 1) = true := szOk_of (by omega)
        simp only [turnF, C.b__law_rule_3_1]
        simp [rL, zL, h2, z1, List.range_succ, f, -List.map_map]
    refine ⟨(E, (List.range S).map f), n4, ?_, rok _ (by simp) fun x hx => ?_⟩
    · simp only [C.g__law_rule_3, C.m__law_rule_3]
      have h3 : forL (tmName 8) C.b__law_rule_3_1 [8] [] ((List.range S).map fun j : Nat => D.int (j : Nat)) [some (.lst [.int (n1 / 3 / S / ((E.length : Nat) + 2))]), some (.int m), some (tf E), some (.int S), none, some (.int (n1 / 3 % S)), some (.int (n1 / 3 / S % ((E.length : Nat) + 2))), some (.lst []), none, none] = _ := h3
      simp [e_fnD, rm, zm, h1, c4, s1, s2, tS, t2, take_ok, way, rS, zS, h3, hS, hT, -d_shl, shAt]
    · obtain ⟨p, _, rfl⟩ := List.mem_map.mp hx
      simp only [f]
      split <;> omega
theorem netF_at {ns : List RuleT} {k : Nat} (h : k < ns.length) : atI (ns.map dRuleF) (k : Int) = some (dRuleF (ns.getD k ([], []))) := by
  rw [atI_map, atI_nat' h, List.getD_eq_getElem?_getD, List.getElem?_eq_getElem h]
  rfl
theorem fit_tf {n : Nat} {xs : List Int} : Fit (n + 1) (tf xs) := fun d hd => by
  obtain ⟨x, _, rfl⟩ := List.mem_map.mp hd
  unfold Fit; trivial
theorem fit_rF {n : Nat} {r : RuleT} : Fit (n + 2) (dRuleF r) := fun d hd => by
  simp only [dRuleF, List.mem_cons, List.not_mem_nil, or_false] at hd
  rcases hd with rfl | rfl
  · exact fit_tf
  · exact fit_tupI
theorem fit_rT {n : Nat} {r : RuleT} : Fit (n + 2) (dRule r) := fun d hd => by
  simp only [dRule, List.mem_cons, List.not_mem_nil, or_false] at hd
  rcases hd with rfl | rfl <;> exact fit_tupI
theorem nl_rF {r : RuleT} : (dRuleF r).nl = true := by
  have a : nls (r.1.map D.int) = true := nls_map fun _ _ => rfl
  have b : nls (r.2.map D.int) = true := nls_map fun _ _ => rfl
  show nls [tf r.1, ti r.2] = true
  show (nls (r.1.map D.int) && (nls (r.2.map D.int) && true)) = true
  rw [a, b]; rfl
end H

set_option Elab.async false
set_option linter.all false
set_option maxRecDepth 100000
namespace H
open PySem PySem.Spec PyProof.Rows L2 Y
section
variable {a b : List RuleT}
end
end H

set_option Elab.async false
set_option linter.all false
set_option maxRecDepth 100000
namespace H
open PySem PySem.Spec PyProof.Rows L2 Y
section
variable {a b : List RuleT}
end
end H

set_option Elab.async false
set_option linter.all false
set_option maxRecDepth 100000
namespace H
open PySem PySem.Spec PyProof.Rows L2 Y
def flS (r : RuleT) (k : Nat) (rd : List Int) : List Int := if (k : Int) ∈ r.1 then flipB rd (r.1.idxOf (k : Int)) else rd
def flV (r : RuleT) (k : Nat) (own : Bool) (rd : List Int) : Int := if own = true then 1 - tolI r (flS r k rd) else tolI r (flS r k rd)
def flpQ (ns : List RuleT) (k j : Nat) : RuleT := ((ns.getD j ([], [])).1, (stands (ns.getD j ([], [])).1.length).map (flV (ns.getD j ([], [])) k (decide (j = k))))
theorem xor_0 {p : Nat} (h : p < 16) : Builtin.bitXor (p : Int) 0 = p := by
  have : (List.range 16).all (fun p => decide (Builtin.bitXor (p : Int) 0 = p)) = true := by decide +kernel
  rw [List.all_eq_true] at this
  exact of_decide_eq_true (this p (List.mem_range.mpr h))
section
variable {m k : Nat} {r : RuleT}
theorem RuleOk.nd1 (h : RuleOk m r) : r.1.Nodup := by
  obtain ⟨es, e1, nd, _⟩ := h.nats
  rw [e1]
  exact List.Pairwise.map (R := (· ≠ ·)) _ (fun a b h z => h (Int.ofNat.inj z)) nd
theorem flS_st (h : RuleOk m r) {rd : List Int} (hr : IsSt r.1.length rd) : IsSt r.1.length (flS r k rd) := by
  unfold flS
  split
  · rename_i c
    exact flpB_st hr (List.idxOf_lt_length_of_mem c)
  · exact hr
theorem tab_tol (h : RuleLk r) : r.2 = (stands r.1.length).map (tolI r) := by
  refine List.ext_getElem (by rw [List.length_map, stands_len, h.tab]) fun i h1 h2 => ?_
  rw [List.getElem_map]
  have h3 : i < (stands r.1.length).length := by rwa [List.length_map] at h2
  unfold tolI
  rw [place_stands h3, Int.toNat_natCast, getD_lt h1]
/-- what the program tells -/
theorem flip_told (h : RuleOk m r) {N DK J : D} {far : Int} (hf : (if (k : Int) ∈ r.1 then ((2 ^ (r.1.length - 1 - r.1.idxOf (k : Int)) : Nat) : Int) else 0) = far) {F : D} {x7 x9 : Option D} :
    cCompL (tmName 8) cYes C.e_flipped_1 [8] [] ((List.range r.2.length).map fun p : Nat => D.int (p : Nat)) [some N, some DK, some F, some J, some (tf r.1), some (ti r.2), some (.int far), x7, none, x9] = .ok (((stands r.1.length).map fun rd => tolI r (flS r k rd)).map D.int, [some N, some DK, some F, some J, some (tf r.1), some (ti r.2), some (.int far), x7, none, x9]) := by
  have ht := h.tab
  have h4 := h.len
  have p4 : 2 ^ r.1.length ≤ 2 ^ 4 := Nat.pow_le_pow_right (by omega) h4
  have e : ((stands r.1.length).map fun rd => tolI r (flS r k rd)).map D.int = (List.range r.2.length).map fun p => D.int (tolI r (flS r k ((stands r.1.length).getD p []))) := by
    rw [List.map_map, ht]
    conv => lhs; rw [← range_getD (d := []) (xs := stands r.1.length) (stands_len _), List.map_map]
    rfl
  rw [e]
  refine comp_map (fun p : Nat => D.int (p : Nat)) (fun p => D.int (tolI r (flS r k ((stands r.1.length).getD p [])))) (List.range r.2.length) fun p hp => ?_
  have hp : p < 2 ^ r.1.length := by rw [← ht]; exact List.mem_range.mp hp
  obtain ⟨g1, g2⟩ := getD_stands hp
  have hs := stands_st g1
  have fs := flS_st (k := k) h hs
  have pl := placeI_lt fs.bit
  rw [fs.len] at pl
  have xp : Builtin.bitXor (p : Int) far = placeI (flS r k ((stands r.1.length).getD p [])) := by
    rw [← hf]
    unfold flS
    by_cases c : (k : Int) ∈ r.1
    · rw [if_pos c, if_pos c]
      exact xor_place h4 hp (List.idxOf_lt_length_of_mem c)
    · rw [if_neg c, if_neg c, xor_0 (by omega), g2]
  have a2 := atI_mapI (xs := r.2) (i := placeI (flS r k ((stands r.1.length).getD p []))) pl.1 (by rw [ht]; exact_mod_cast pl.2)
  have a2 : atI (r.2.map D.int) (placeI (flS r k ((stands r.1.length).getD p []))) = some (.int (tolI r (flS r k ((stands r.1.length).getD p [])))) := a2
  have i2 : ixD (ti r.2) (.int (placeI (flS r k ((stands r.1.length).getD p [])))) = .ok (.int (tolI r (flS r k ((stands r.1.length).getD p [])))) := by
    show (match atI (r.2.map D.int) _ with | some d => Y.R.ok d | none => Y.R.stk) = _
    rw [a2]
  have xo : xorD (.int p) (.int far) = .ok (.int (placeI (flS r k ((stands r.1.length).getD p [])))) := by rw [d_xor, xp]
  simp only [turnC, C.e_flipped_1]
  generalize tolI r (flS r k ((stands r.1.length).getD p [])) = v at *
  generalize placeI (flS r k ((stands r.1.length).getD p [])) = pf at *
  generalize tf r.1 = T1 at *
  generalize ti r.2 = T2 at *
  simp [xo, i2, -d_xor]
end
end H

set_option Elab.async false
set_option linter.all false
set_option maxRecDepth 100000
namespace H
open PySem PySem.Spec PyProof.Rows L2 Y
theorem inF_dec {x : Int} {xs : List Int} : inFD (.int x) (tf xs) = .ok (.bl (decide (x ∈ xs))) := by
  have := in_ti (x := x) (xs := xs)
  have e : inFD (.int x) (tf xs) = inD (.int x) (ti xs) := by
    show (if (flatD (.int x) && (xs.map D.int).all flatD) = true then R.ok (D.bl ((xs.map D.int).any fun z => eqP z (.int x))) else .stk) = (match (if (flatD (.int x) && (xs.map D.int).all flatD) = true then some ((xs.map D.int).any fun z => eqP z (.int x)) else none) with | some b => R.ok (D.bl b) | none => .stk)
    split <;> rfl
  rw [e, this]
section
variable {ns : List RuleT} {most k j : Nat}
theorem flip_turn (ok : NetOk ns most) (hj : j < ns.length) {N : D} {F : List D} (hF : F.length ≤ 100) :
    turnF (tmMix [tmName 3, tmTup [4, 5]]) C.b_flipped_1 [3, 4, 5, 6, 7] (.tup [.int j, dRuleF (ns.getD j ([], []))]) [some N, some (.int k), some (.lst F), none, none, none, none, none, none, none] =
      .ok (.nx, [some N, some (.int k), some (.lst (F ++ [dRuleF (flpQ ns k j)])), none, none, none, none, none, none, none]) := by
  have rj := net_rule ok hj
  have dq : dRuleF (flpQ ns k j) = .tup [tf (ns.getD j ([], [])).1, ti ((stands (ns.getD j ([], [])).1.length).map (flV (ns.getD j ([], [])) k (decide (j = k))))] := rfl
  rw [dq]
  generalize ns.getD j ([], []) = r at *
  have h4 := rj.len
  have ht := rj.tab
  have p4 : 2 ^ r.1.length ≤ 2 ^ 4 := Nat.pow_le_pow_right (by omega) h4
  have p1 : 1 ≤ 2 ^ r.1.length := Nat.one_le_two_pow
  obtain ⟨far, hfar⟩ : ∃ far : Int, (if (k : Int) ∈ r.1 then ((2 ^ (r.1.length - 1 - r.1.idxOf (k : Int)) : Nat) : Int) else 0) = far := ⟨_, rfl⟩
  have ft := flip_told rj hfar (N := N) (DK := .int k) (J := .int j) (F := .lst F) (x7 := none) (x9 := none)
  have l1 : lenD [tf r.1] = .ok (.int r.1.length) := by
    show R.ok (D.int ((r.1.map D.int).length : Nat)) = _
    rw [List.length_map]
  have l2 : lenD [ti r.2] = .ok (.int r.2.length) := by rw [d_lenT, List.length_map]
  have inn := inF_dec (x := (k : Int)) (xs := r.1)
  have rk : rngOk r.2.length = true := rngOk_of (by omega) (by omega)
  have zk : szOk r.2.length = true := szOk_of (by omega)
  have zt : szOk (((stands r.1.length).map fun rd => tolI r (flS r k rd)).map D.int).length = true := szOk_of (by rw [List.length_map, List.length_map, stands_len]; omega)
  have zF : szOk (F.length + 1) = true := szOk_of (by omega)
  have n1 : (tf r.1).nl = true := nls_map fun _ _ => rfl
  have n2 : ∀ l : List Int, (ti l).nl = true := fun l => nls_map fun _ _ => rfl
  have c2 := comp_map (tm := tmName 9) (t := cYes) (e := C.e_flipped_2) (vs := [9]) (ws := []) (ρ := [some N, some (.int k), some (.lst F), some (.int j), some (tf r.1), some (ti r.2), some (.int far), some (.lst (((stands r.1.length).map fun rd => tolI r (flS r k rd)).map D.int)), none, none]) D.int (fun b => D.int (1 - b)) ((stands r.1.length).map fun rd => tolI r (flS r k rd)) fun b hb => by
    simp only [turnC, C.e_flipped_2]
    generalize tf r.1 = T1
    generalize ti r.2 = T2
    generalize ((stands r.1.length).map fun rd => tolI r (flS r k rd)).map D.int = T3
    simp
  have e2 : (((stands r.1.length).map fun rd => tolI r (flS r k rd)).map fun b => D.int (1 - b)) = (((stands r.1.length).map fun rd => 1 - tolI r (flS r k rd))).map D.int := by rw [List.map_map, List.map_map]; rfl
  rw [e2] at c2
  have zt2 : szOk ((((stands r.1.length).map fun rd => 1 - tolI r (flS r k rd))).map D.int).length = true := szOk_of (by rw [List.length_map, List.length_map, stands_len]; omega)
  have ix : (k : Int) ∈ r.1 → indexFD (tf r.1) (.int k) = .ok (.int (r.1.idxOf (k : Int) : Nat)) := fun c => by
    show (match intsOf (r.1.map D.int) with | some ns => if (k : Int) ∈ ns then R.ok (D.int (ns.idxOf (k : Int) : Nat)) else .stk | none => .stk) = _
    rw [Y.ints_map]
    show (if (k : Int) ∈ r.1 then R.ok (D.int (r.1.idxOf (k : Int) : Nat)) else .stk) = _
    rw [if_pos c]
  have sh : (k : Int) ∈ r.1 → shlD (.int 1) (.int ((r.1.length : Int) - 1 - (r.1.idxOf (k : Int) : Nat))) = .ok (.int far) := fun c => by
    have := List.idxOf_lt_length_of_mem c
    rw [show ((r.1.length : Int) - 1 - (r.1.idxOf (k : Int) : Nat)) = ((r.1.length - 1 - r.1.idxOf (k : Int) : Nat) : Int) by omega, ← hfar, if_pos c]
    exact shl1 (by omega)
  have far0 : (k : Int) ∉ r.1 → far = 0 := fun c => by rw [← hfar, if_neg c]
  have tp : ∀ l : List Int, tupleD [.lst (l.map D.int)] = .ok (ti l) := fun _ => rfl
  have fv : ((stands r.1.length).map (flV r k (decide (j = k)))) = if j = k then (stands r.1.length).map (fun rd => 1 - tolI r (flS r k rd)) else (stands r.1.length).map fun rd => tolI r (flS r k rd) := by
    by_cases c : j = k
    · rw [if_pos c]; refine List.map_congr_left fun rd _ => ?_; unfold flV; rw [if_pos (decide_eq_true c)]
    · rw [if_neg c]; refine List.map_congr_left fun rd _ => ?_; unfold flV; rw [if_neg (by rw [decide_eq_false c]; simp)]
  rw [fv]
  have tp1 := tp ((stands r.1.length).map fun rd => 1 - tolI r (flS r k rd))
  have tp2 := tp ((stands r.1.length).map fun rd => tolI r (flS r k rd))
  have m1 := n2 ((stands r.1.length).map fun rd => 1 - tolI r (flS r k rd))
  have m2 := n2 ((stands r.1.length).map fun rd => tolI r (flS r k rd))
  clear fv hfar
  simp only [turnF, C.b_flipped_1]
  show (tmMix [tmName 3, tmTup [4, 5]] (D.tup [.int j, D.tup [tf r.1, ti r.2]]) _).nox >>= _ = _
  generalize (stands r.1.length).map (fun rd => 1 - tolI r (flS r k rd)) = V1 at *
  generalize (stands r.1.length).map (fun rd => tolI r (flS r k rd)) = V0 at *
  generalize ((r.1.idxOf (k : Int) : Nat) : Int) = IX at *
  generalize (r.1.length : Int) = LR at *
  generalize C.e_flipped_1 = E1 at *
  generalize C.e_flipped_2 = E2 at *
  generalize h1V : ti V1 = TV1 at *
  generalize h0V : ti V0 = TV0 at *
  generalize V1.map D.int = L1 at *
  generalize V0.map D.int = L0 at *
  simp only [tf] at inn l1 ft c2 ix n1 ⊢
  generalize r.1.map D.int = T1 at *
  generalize ti r.2 = T2 at *
  by_cases c : (k : Int) ∈ r.1
  · rw [decide_eq_true c] at inn
    have ix2 := ix c
    have sh2 := sh c
    by_cases d : j = k
    · rw [if_pos d]
      subst d
      simp [inn, l1, ix2, sh2, l2, rk, zk, ft, zt, c2, tp1, zt2, zF, n1, m1, h1V, -d_shl, -d_lenT]
    · rw [if_neg d]
      have d2 : ¬ (j : Int) = (k : Int) := by omega
      simp [inn, l1, ix2, sh2, l2, rk, zk, ft, zt, d2, tp2, zF, n1, m2, h0V, -d_shl, -d_lenT]
  · rw [decide_eq_false c] at inn
    have f0 := far0 c
    subst f0
    by_cases d : j = k
    · rw [if_pos d]
      subst d
      simp [inn, l2, rk, zk, ft, zt, c2, tp1, zt2, zF, n1, m1, h1V, -d_shl, -d_lenT]
    · rw [if_neg d]
      have d2 : ¬ (j : Int) = (k : Int) := by omega
      simp [inn, l2, rk, zk, ft, zt, d2, tp2, zF, n1, m2, h0V, -d_shl, -d_lenT]
end
end H

set_option Elab.async false
set_option linter.all false
set_option maxRecDepth 100000
namespace H
open PySem PySem.Spec PyProof.Rows L2 Y
section
variable {ns : List RuleT} {most k j : Nat}
def flpN (ns : List RuleT) (k : Nat) : List RuleT := (List.range ns.length).map (flpQ ns k)
theorem zip_rangeQ {α : Type} {d : α} {xs : List α} : (List.range xs.length).zip xs = (List.range xs.length).map fun i => (i, xs.getD i d) := by
  refine List.ext_getElem (by simp) fun i h1 h2 => ?_
  rw [List.length_map, List.length_range] at h2
  rw [List.getElem_zip, List.getElem_map, List.getElem_range, getD_lt h2]
theorem numF : numD (ns.map dRuleF) = (List.range ns.length).map fun j : Nat => D.tup [.int j, dRuleF (ns.getD j ([], []))] := by
  rw [numD_map, zip_rangeQ (d := ([], [])), List.map_map]
  rfl
theorem flip_loop (ok : NetOk ns most) {N : D} : ∀ (js : List Nat) (F : List D), (∀ j ∈ js, j < ns.length) → F.length + js.length ≤ 50 →
    forL (tmMix [tmName 3, tmTup [4, 5]]) C.b_flipped_1 [3, 4, 5, 6, 7] [] (js.map fun j : Nat => D.tup [.int j, dRuleF (ns.getD j ([], []))]) [some N, some (.int k), some (.lst F), none, none, none, none, none, none, none] = .ok (.nx, [some N, some (.int k), some (.lst (F ++ (js.map (flpQ ns k)).map dRuleF)), none, none, none, none, none, none, none])
  | [], F, _, _ => by rw [List.map_nil, List.map_nil, List.map_nil, List.append_nil]; rfl
  | j :: js, F, hj, hF => by
    rw [List.length_cons] at hF
    have t := flip_turn (k := k) ok (hj j (by simp)) (N := N) (F := F) (by omega)
    refine for_cons t (fun _ z => by cases z) ((flip_loop ok js _ (fun x hx => hj x (by simp [hx])) (by simp; omega)).trans ?_)
    rw [List.map_cons, List.map_cons, List.append_assoc]
    rfl
theorem flipped_ok (ok : NetOk ns most) (hm : most ≤ 20) (hk : k < ns.length) : C.g_flipped [dNetF ns, .int k] = .ok (.fr (dNetF (flpN ns k))) := by
  have le := ok.le
  have lo := look_at_switch_ok (n := ns.map dRuleF) (k := k) (by rw [List.length_map]; exact hk)
  have lo2 : C.g_look_at_switch [dNetF ns, .int k] = .ok (.fr .non) := lo
  have lp := flip_loop (k := k) ok (N := dNetF ns) (List.range ns.length) [] (fun j hj => List.mem_range.mp hj) (by simp; omega)
  rw [List.nil_append, ← numF] at lp
  have lp : forL (tmMix [tmName 3, tmTup [4, 5]]) C.b_flipped_1 [3, 4, 5, 6, 7] [] (numD (ns.map dRuleF)) [some (dNetF ns), some (.int k), some (.lst []), none, none, none, none, none, none, none] = .ok (.nx, [some (dNetF ns), some (.int k), some (.lst ((flpN ns k).map dRuleF)), none, none, none, none, none, none, none]) := lp
  have zn : szOk (numD (ns.map dRuleF)).length = true := by rw [numF, List.length_map, List.length_range]; exact szOk_of (by omega)
  have z0 : szOk (ns.map dRuleF).length = true := szOk_of (by rw [List.length_map]; omega)
  have it : itD (dNetF ns) = .ok (ns.map dRuleF) := rfl
  have fl : (flpN ns k).length = ns.length := by unfold flpN; rw [List.length_map, List.length_range]
  have zf : szOk ((flpN ns k).map dRuleF).length = true := szOk_of (by rw [List.length_map]; omega)
  have nF : nls ((flpN ns k).map dRuleF) = true := nls_map fun _ _ => nl_rF
  have tp : tupleD [.lst ((flpN ns k).map dRuleF)] = .ok (dNetF (flpN ns k)) := rfl
  simp only [C.g_flipped, C.m_flipped]
  generalize C.b_flipped_1 = B1 at *
  generalize hFD : dNetF (flpN ns k) = FD at *
  generalize (flpN ns k).map dRuleF = FL at *
  generalize hND : numD (ns.map dRuleF) = ND at *
  generalize hN : dNetF ns = N at *
  generalize ns.map dRuleF = NL at *
  simp [e_fnP, lo2, it, hND, zn, z0, lp, tp, zf, nF, shAt, chkO_ws, szOk_of]
end
end H

set_option Elab.async false
set_option linter.all false
set_option maxRecDepth 100000
namespace H
open PySem PySem.Spec PyProof.Rows L2 Y
section
variable {ns : List RuleT} {most k j : Nat}
end
end H

set_option Elab.async false
set_option linter.all false
set_option maxRecDepth 100000
namespace H
open PySem PySem.Spec PyProof.Rows L2 Y
section
variable {ns : List RuleT} {most k j : Nat}
end
end H

set_option Elab.async false
set_option linter.all false
set_option maxRecDepth 100000
namespace H
open PySem PySem.Spec PyProof.Rows L2 Y
def plE (E : List Nat) (e : Int) : Int := ((E.idxOf e.toNat : Nat) : Int)
def PE (r : RuleT) (E : List Nat) : List Int := r.1.map (plE E)
def NE (r : RuleT) (E : List Nat) : List Int := sortI (PE r E)
def anV (r : RuleT) (E : List Nat) (rd : List Int) : Int := tolI r ((PE r E).map (lkI (NE r E) rd))
def anR (r : RuleT) (E : List Nat) : RuleT := (NE r E, (stands r.1.length).map (anV r E))
section
variable {m : Nat} {r : RuleT} {E : List Nat}
theorem ear_in (ro : RuleOk m r) (pm : E.Perm (List.range m)) {e : Int} (he : e ∈ r.1) : ∃ k : Nat, e = k ∧ k ∈ E := by
  obtain ⟨es, e1, _, lt⟩ := ro.nats
  rw [e1] at he
  obtain ⟨k, hk, rfl⟩ := List.mem_map.mp he
  exact ⟨k, rfl, pm.mem_iff.mpr (List.mem_range.mpr (lt k hk))⟩
theorem get_plE (ro : RuleOk m r) (pm : E.Perm (List.range m)) {e : Int} (he : e ∈ r.1) : getDic (plD E) (.int e) = .ok (some (.int (plE E e))) := by
  obtain ⟨k, rfl, hk⟩ := ear_in ro pm he
  rw [get_plD hk]
  unfold plE
  rw [Int.toNat_natCast]
theorem PE_nd (ro : RuleOk m r) (pm : E.Perm (List.range m)) : (PE r E).Nodup := by
  unfold PE
  refine List.pairwise_map.mpr ((RuleOk.nd1 ro).imp_of_mem fun {a b} ha hb n z => n ?_)
  obtain ⟨j, rfl, hj⟩ := ear_in ro pm ha
  obtain ⟨k, rfl, hk⟩ := ear_in ro pm hb
  unfold plE at z
  rw [Int.toNat_natCast, Int.toNat_natCast] at z
  have z : E.idxOf j = E.idxOf k := by omega
  have a := List.getElem_idxOf (List.idxOf_lt_length_of_mem hj)
  have b := List.getElem_idxOf (List.idxOf_lt_length_of_mem hk)
  have : j = k := by rw [← a, ← b]; simp only [z]
  rw [this]
theorem NE_perm : (NE r E).Perm (PE r E) := sortI_perm _
theorem NE_nd (ro : RuleOk m r) (pm : E.Perm (List.range m)) : (NE r E).Nodup := NE_perm.nodup_iff.mpr (PE_nd ro pm)
theorem NE_len : (NE r E).length = r.1.length := by rw [NE_perm.length_eq]; unfold PE; rw [List.length_map]
theorem PE_len : (PE r E).length = r.1.length := by unfold PE; rw [List.length_map]
theorem NE_mem {e : Int} (he : e ∈ r.1) : plE E e ∈ NE r E := NE_perm.mem_iff.mpr (List.mem_map.mpr ⟨e, he, rfl⟩)
theorem dictZ_I {N rd : List Int} (hl : N.length = rd.length) (nd : N.Nodup) (hz : N.length ≤ 1000) {d : D} (hd : d = .lst (N.map D.int) ∨ d = .tup (N.map D.int)) : dictZ d (ti rd) = .ok (.dik (kt N) (rd.map D.int)) := by
  have ktn : (kt N).Nodup := List.Pairwise.map (R := (· ≠ ·)) _ (fun a b h z => h (Sum.inl.inj z)) nd
  rcases hd with rfl | rfl
  all_goals
    show (if (N.map D.int).length = (rd.map D.int).length ∧ szOk (N.map D.int).length = true then _ else _) = _
    rw [if_pos ⟨by rw [List.length_map, List.length_map, hl], szOk_of (by rw [List.length_map]; omega)⟩, keys_ti]
    show (if (kt _).Nodup then _ else _) = _
    rw [if_pos ktn]
theorem get_N {N rd : List Int} (hl : N.length = rd.length) {k : Int} (hk : k ∈ N) : getDic (.dik (kt N) (rd.map D.int)) (.int k) = .ok (some (.int (lkI N rd k))) := by
  show R.ok (findD _ _ (Sum.inl _)) = _
  rw [find_lk hl hk]
theorem anew_turn (ro : RuleOk m r) (pm : E.Perm (List.range m)) {rd : List Int} (hr : IsSt r.1.length rd) {T : List D} (hT : T.length ≤ 100) :
    turnF (tmName 6) C.b_rule_anew_1 [6, 7] (ti rd) [some (dRuleF r), some (plD E), some (tf r.1), some (ti r.2), some (.lst ((NE r E).map D.int)), some (.lst T), none, none, none] = .ok (.nx, [some (dRuleF r), some (plD E), some (tf r.1), some (ti r.2), some (.lst ((NE r E).map D.int)), some (.lst (T ++ [.int (anV r E rd)])), none, none, none]) := by
  have r4 := ro.len
  have hl := hr.len
  have dz := dictZ_I (N := NE r E) (rd := rd) (by rw [NE_len, hl]) (NE_nd ro pm) (by rw [NE_len]; omega) (.inl rfl)
  have c := comp_map (tm := tmName 8) (t := cYes) (e := C.e_rule_anew_2) (vs := [8]) (ws := []) (ρ := [some (dRuleF r), some (plD E), some (tf r.1), some (ti r.2), some (.lst ((NE r E).map D.int)), some (.lst T), some (ti rd), some (.dik (kt (NE r E)) (rd.map D.int)), none]) D.int (fun e => D.int (lkI (NE r E) rd (plE E e))) r.1 fun e he => by
    have g1 := get_plE ro pm he
    have g2 := get_N (N := NE r E) (rd := rd) (by rw [NE_len, hl]) (NE_mem he)
    simp only [turnC, C.e_rule_anew_2]
    generalize lkI (NE r E) rd (plE E e) = v at *
    generalize plE E e = pe at *
    generalize D.dik (kt (NE r E)) (rd.map D.int) = BD at *
    generalize plD E = PD at *
    generalize (NE r E).map D.int = NL at *
    show (tmName 8 _ _).nox >>= _ = _
    generalize dRuleF r = DR at *
    generalize tf r.1 = T1 at *
    generalize ti r.2 = T2 at *
    generalize ti rd = RD at *
    simp [e_dget, g1, g2]
  have e3 : (r.1.map fun e => D.int (lkI (NE r E) rd (plE E e))) = ((PE r E).map (lkI (NE r E) rd)).map D.int := by unfold PE; rw [List.map_map, List.map_map]; rfl
  rw [e3] at c
  have hb : ∀ x ∈ (PE r E).map (lkI (NE r E) rd), 0 ≤ x ∧ x < 2 := fun x hx => by
    obtain ⟨k, _, rfl⟩ := List.mem_map.mp hx
    exact lkI_bit hr.bit
  have pl := placeI_lt hb
  rw [List.length_map, PE_len] at pl
  have po := place_of_lst (xs := (PE r E).map (lkI (NE r E) rd)) (by rw [List.length_map, PE_len]; omega)
  have ax := atI_mapI (xs := r.2) pl.1 (by rw [ro.tab]; exact_mod_cast pl.2)
  have ix : ixD (ti r.2) (.int (placeI ((PE r E).map (lkI (NE r E) rd)))) = .ok (.int (anV r E rd)) := by
    show (match atI (r.2.map D.int) _ with | some d => Y.R.ok d | none => Y.R.stk) = _
    rw [ax]; rfl
  have itE : itD (tf r.1) = .ok (r.1.map D.int) := rfl
  have zE : szOk (r.1.map D.int).length = true := szOk_of (by rw [List.length_map]; omega)
  have zV : szOk (((PE r E).map (lkI (NE r E) rd)).map D.int).length = true := szOk_of (by rw [List.length_map, List.length_map, PE_len]; omega)
  have zT : szOk (T.length + 1) = true := szOk_of (by omega)
  simp only [turnF, C.b_rule_anew_1]
  show (tmName 6 _ _).nox >>= _ = _
  generalize anV r E rd = v at *
  generalize placeI ((PE r E).map (lkI (NE r E) rd)) = pv at *
  generalize ((PE r E).map (lkI (NE r E) rd)).map D.int = VD at *
  generalize C.e_rule_anew_2 = E2 at *
  generalize D.dik (kt (NE r E)) (rd.map D.int) = BD at *
  generalize plD E = PD at *
  generalize (NE r E).map D.int = NL at *
  generalize dRuleF r = DR at *
  generalize r.1.map D.int = L1 at *
  generalize tf r.1 = T1 at *
  generalize ti r.2 = T2 at *
  generalize ti rd = RD at *
  simp [dz, itE, zE, c, po, ix, zT, zV]
end
end H

set_option Elab.async false
set_option linter.all false
set_option maxRecDepth 100000
set_option maxHeartbeats 2000000
namespace H
open PySem PySem.Spec PyProof.Rows L2 Y
section
variable {m : Nat} {r : RuleT} {E : List Nat}
theorem anew_loop (ro : RuleOk m r) (pm : E.Perm (List.range m)) : ∀ (L : List (List Int)) (T : List D), (∀ rd ∈ L, IsSt r.1.length rd) → T.length + L.length ≤ 50 →
    forL (tmName 6) C.b_rule_anew_1 [6, 7] [] (L.map ti) [some (dRuleF r), some (plD E), some (tf r.1), some (ti r.2), some (.lst ((NE r E).map D.int)), some (.lst T), none, none, none] = .ok (.nx, [some (dRuleF r), some (plD E), some (tf r.1), some (ti r.2), some (.lst ((NE r E).map D.int)), some (.lst (T ++ (L.map (anV r E)).map D.int)), none, none, none])
  | [], T, _, _ => by rw [List.map_nil, List.map_nil, List.map_nil, List.append_nil]; rfl
  | rd :: L, T, hL, hT => by
    rw [List.length_cons] at hT
    have t := anew_turn ro pm (hL rd (by simp)) (T := T) (by omega)
    refine for_cons t (fun _ z => by cases z) ((anew_loop ro pm L _ (fun x hx => hL x (by simp [hx])) (by simp; omega)).trans ?_)
    rw [List.map_cons, List.map_cons, List.append_assoc]
    rfl
theorem rule_anewF_ok (ro : RuleOk m r) (pm : E.Perm (List.range m)) : C.g_rule_anew [dRuleF r, plD E] = .ok (.fr (dRule (anR r E))) := by
  have r4 := ro.len
  have sl := stands_len r.1.length
  have p4 : 2 ^ r.1.length ≤ 2 ^ 4 := Nat.pow_le_pow_right (by omega) r4
  have lp := anew_loop ro pm (stands r.1.length) [] (fun rd h => stands_st h) (by simp; omega)
  rw [List.nil_append] at lp
  have c1 := comp_map (tm := tmName 8) (t := cYes) (e := C.e_rule_anew_1) (vs := [8]) (ws := []) (ρ := [some (dRuleF r), some (plD E), some (tf r.1), some (ti r.2), none, none, none, none, none]) D.int (fun e => D.int (plE E e)) r.1 fun e he => by
    have g1 := get_plE ro pm he
    simp only [turnC, C.e_rule_anew_1]
    generalize plD E = PD at *
    generalize plE E e = pe at *
    show (tmName 8 _ _).nox >>= _ = _
    generalize dRuleF r = DR at *
    generalize tf r.1 = T1 at *
    generalize ti r.2 = T2 at *
    simp [e_dget, g1]
  have e3 : (r.1.map fun e => D.int (plE E e)) = (PE r E).map D.int := by unfold PE; rw [List.map_map]; rfl
  rw [e3] at c1
  have so : sortD [.lst ((PE r E).map D.int)] = .ok (.lst ((NE r E).map D.int)) := d_sortN
  have itE : itD (tf r.1) = .ok (r.1.map D.int) := rfl
  have zE : szOk (r.1.map D.int).length = true := szOk_of (by rw [List.length_map]; omega)
  have zP : szOk ((PE r E).map D.int).length = true := szOk_of (by rw [List.length_map, PE_len]; omega)
  have zN : szOk ((NE r E).map D.int).length = true := szOk_of (by rw [List.length_map, NE_len]; omega)
  have lE : lenD [tf r.1] = .ok (.int r.1.length) := by
    show R.ok (D.int ((r.1.map D.int).length : Nat)) = _
    rw [List.length_map]
  have so2 : C.g_stands_of [.int r.1.length] = .ok (.vl (.lst ((stands r.1.length).map ti))) := stands_of_ok (by omega)
  have zS : szOk ((stands r.1.length).map ti).length = true := szOk_of (by rw [List.length_map, sl]; omega)
  have zV : szOk (((stands r.1.length).map (anV r E)).map D.int).length = true := szOk_of (by rw [List.length_map, List.length_map]; omega)
  have tN : tupleD [.lst ((NE r E).map D.int)] = .ok (ti (NE r E)) := rfl
  have tV : tupleD [.lst (((stands r.1.length).map (anV r E)).map D.int)] = .ok (ti ((stands r.1.length).map (anV r E))) := rfl
  have n1 : (ti (NE r E)).nl = true := nls_map fun _ _ => rfl
  have n2 : (ti ((stands r.1.length).map (anV r E))).nl = true := nls_map fun _ _ => rfl
  have nn1 : nls ((NE r E).map D.int) = true := nls_map fun _ _ => rfl
  have nn2 : nls (((stands r.1.length).map (anV r E)).map D.int) = true := nls_map fun _ _ => rfl
  show C.g_rule_anew [.tup [tf r.1, ti r.2], plD E] = R.ok (Hd.fr (.tup [ti (NE r E), ti ((stands r.1.length).map (anV r E))]))
  have lp : forL (tmName 6) C.b_rule_anew_1 [6, 7] [] ((stands r.1.length).map ti) [some (.tup [tf r.1, ti r.2]), some (plD E), some (tf r.1), some (ti r.2), some (.lst ((NE r E).map D.int)), some (.lst []), none, none, none] = .ok (.nx, [some (.tup [tf r.1, ti r.2]), some (plD E), some (tf r.1), some (ti r.2), some (.lst ((NE r E).map D.int)), some (.lst (((stands r.1.length).map (anV r E)).map D.int)), none, none, none]) := lp
  have c1 : cCompL _ _ _ _ _ _ [some (.tup [tf r.1, ti r.2]), some (plD E), some (tf r.1), some (ti r.2), none, none, none, none, none] = R.ok (_, [some (.tup [tf r.1, ti r.2]), some (plD E), some (tf r.1), some (ti r.2), none, none, none, none, none]) := c1
  simp only [C.g_rule_anew, C.m_rule_anew]
  generalize hTV : ti ((stands r.1.length).map (anV r E)) = TV at *
  generalize ((stands r.1.length).map (anV r E)).map D.int = VD at *
  generalize hTN : ti (NE r E) = TN at *
  generalize (NE r E).map D.int = ND at *
  generalize (PE r E).map D.int = FD at *
  generalize (stands r.1.length).map ti = SD at *
  generalize (r.1.length : Int) = LR at *
  generalize C.e_rule_anew_1 = E1 at *
  generalize C.b_rule_anew_1 = B1 at *
  generalize plD E = PD at *
  generalize tf r.1 = T1 at *
  generalize ti r.2 = T2 at *
  generalize r.1.map D.int = L1 at *
  simp [e_fnP, itE, zE, c1, zP, so, lE, so2, zS, lp, tN, tV, zN, zV, n1, n2, nn1, nn2, shAt, chkO_ws, szOk_of, -d_lenT]
end
end H

set_option Elab.async false
set_option linter.all false
set_option maxRecDepth 100000
set_option maxHeartbeats 2000000
namespace H
open PySem PySem.Spec PyProof.Rows L2 Y
def anN (ns : List RuleT) (E : List Nat) : List RuleT := E.map fun k => anR (ns.getD k ([], [])) E
section
variable {ns : List RuleT} {most : Nat} {E : List Nat}
end
end H

set_option Elab.async false
set_option linter.all false
set_option maxRecDepth 100000
set_option maxHeartbeats 2000000
namespace H
open PySem PySem.Spec PyProof.Rows L2 Y
theorem map_lkI {P V : List Int} (nd : P.Nodup) (hl : P.length = V.length) : P.map (lkI P V) = V := by
  refine ext_getD (by rw [List.length_map, hl]) fun i hi => ?_
  rw [List.length_map] at hi
  rw [getD_mapL hi, lkI_at hi nd hl]
section
variable {m : Nat} {r : RuleT} {E : List Nat}
end
end H

set_option Elab.async false
set_option linter.all false
set_option maxRecDepth 100000
set_option maxHeartbeats 2000000
namespace H
open PySem PySem.Spec PyProof.Rows L2 Y
section
variable {m : Nat} {r : RuleT} {E : List Nat}
end
end H

set_option Elab.async false
set_option linter.all false
set_option maxRecDepth 100000
namespace H
open PySem PySem.Spec PyProof.Rows L2 Y
end H

set_option Elab.async false
set_option linter.all false
set_option maxRecDepth 100000
set_option maxHeartbeats 2000000
namespace H
open PySem PySem.Spec PyProof.Rows L2 Y
section
variable {ns : List RuleT} {most : Nat}
theorem fit_nT {n : Nat} : Fit (n + 3) (dNet ns) := fun d h => by
  obtain ⟨r, _, rfl⟩ := List.mem_map.mp h
  exact fit_rT
theorem fit_nF {n : Nat} : Fit (n + 3) (dNetF ns) := fun d h => by
  obtain ⟨r, _, rfl⟩ := List.mem_map.mp h
  exact fit_rF
theorem py_F : toPy (dNetF ns) = toPy (dNet ns) := by
  have h : ∀ L : List RuleT, toPys (L.map dRuleF) = toPys (L.map dRule) := fun L => by
    induction L with
    | nil => rfl
    | cons r L ih =>
      rw [List.map_cons, List.map_cons]
      unfold toPys
      rw [ih]
      rfl
  show PyData.tuple (toPys (ns.map dRuleF)) = PyData.tuple (toPys (ns.map dRule))
  rw [h]
theorem ne_TF : neD (dNet ns) (dNetF ns) = .ok (.bl false) := by
  rw [neD_of (n := 3) fit_nT fit_nF]
  have : eqP (dNet ns) (dNetF ns) = true := by
    have e : eqP (dNet ns) (dNetF ns) = eqP (dNet ns) (dNet ns) := by unfold eqP; rw [py_F]
    rw [e]
    exact eqP_refl (n := 3) fit_nT
  rw [this]; rfl
end
end H

set_option Elab.async false
set_option linter.all false
set_option maxRecDepth 100000
set_option maxHeartbeats 2000000
namespace H
open PySem PySem.Spec PyProof.Rows L2 Y
section
variable {ns : List RuleT} {most : Nat} {E : List Nat}
end
end H

set_option Elab.async false
set_option linter.all false
set_option maxRecDepth 100000
set_option maxHeartbeats 4000000
namespace H
open PySem PySem.Spec PyProof.Rows L2 Y
section
variable {ns : List RuleT} {most : Nat} {E : List Nat}
end
end H

set_option Elab.async false
set_option linter.all false
set_option maxRecDepth 100000
set_option maxHeartbeats 4000000
namespace H
open PySem PySem.Spec PyProof.Rows L2 Y
end H

set_option Elab.async false
set_option linter.all false
set_option maxRecDepth 100000
namespace H
open PySem PySem.Spec PyProof.Rows L2 Y
def valA (r : RuleT) (a : Int → Int) : Int := tolI r (r.1.map a)
abbrev dkI (E V : List Int) : D := .dik (kt E) (V.map D.int)
theorem find_in : ∀ {E V : List Int} {k : Int}, E.length = V.length → k ∈ E → findD (kt E) (V.map D.int) (Sum.inl k) = some (.int (lkI E V k))
  | [], V, k, _, h => by simp at h
  | e :: E, [], k, h, _ => by simp at h
  | e :: E, v :: V, k, h, hk => by
    show (if (Sum.inl e : Key) = Sum.inl k then some (D.int v) else findD (kt E) (V.map D.int) (Sum.inl k)) = some (D.int (if e = k then v else lkI E V k))
    by_cases c : e = k
    · rw [if_pos (by rw [c]), if_pos c]
    · rw [if_neg (fun z => c (Sum.inl.inj z)), if_neg c]
      exact find_in (by simpa using h) ((List.mem_cons.mp hk).resolve_left fun z => c z.symm)
theorem lkI_snoc : ∀ {E V : List Int} {k v e : Int}, k ∉ E → E.length = V.length → lkI (E ++ [k]) (V ++ [v]) e = if e = k then v else lkI E V e
  | [], [], k, v, e, _, _ => by
    show (if k = e then v else 0) = if e = k then v else 0
    by_cases c : e = k
    · rw [if_pos c, if_pos c.symm]
    · rw [if_neg c, if_neg fun z => c z.symm]
  | [], _ :: _, _, _, _, _, h => by simp at h
  | _ :: _, [], _, _, _, _, h => by simp at h
  | x :: E, y :: V, k, v, e, hk, hl => by
    show (if x = e then y else lkI (E ++ [k]) (V ++ [v]) e) = if e = k then v else (if x = e then y else lkI E V e)
    rw [lkI_snoc (fun z => hk (by simp [z])) (by simpa using hl)]
    by_cases c : x = e
    · rw [if_pos c, if_pos c, if_neg fun z => hk (by simp [c, z])]
    · rw [if_neg c, if_neg c]
theorem valA_bit {r : RuleT} {a : Int → Int} (h : RuleLk r) : 0 ≤ valA r a ∧ valA r a < 2 := getD_bit h.bit _
end H

set_option Elab.async false
set_option linter.all false
set_option maxRecDepth 100000
namespace H
open PySem PySem.Spec PyProof.Rows L2 Y
def earsT (r own : RuleT) (k : Nat) : List Int := lessI (r.1 ++ own.1) [(k : Int)]
def asgT (own : RuleT) (k : Nat) (a : Int → Int) : Int → Int := fun e => if e = (k : Int) then valA own a else a e
def tabT (r own : RuleT) (k : Nat) : List Int := (stands (earsT r own k).length).map fun rd => valA r (asgT own k (lkI (earsT r own k) rd))
def foldT (r own : RuleT) (k : Nat) : RuleT := if (k : Int) ∈ r.1 then (earsT r own k, tabT r own k) else r
theorem earsT_mem {r own : RuleT} {k : Nat} {x : Int} : x ∈ earsT r own k ↔ (x ∈ r.1 ∨ x ∈ own.1) ∧ x ≠ (k : Int) := by
  unfold earsT lessI
  rw [setI_mem, List.mem_filter, List.mem_append]
  simp
theorem earsT_nd {r own : RuleT} {k : Nat} : (earsT r own k).Nodup := setI_nodup
theorem in_len {L : List Int} {m : Nat} (rs : L.Pairwise (· < ·)) (h : ∀ x ∈ L, 0 ≤ x ∧ x < m) : L.length ≤ m := by
  have h1 : (L.map Int.toNat).Pairwise (· < ·) := by
    refine List.pairwise_map.mpr (rs.imp_of_mem fun {a b} ha hb n => ?_)
    have := h a ha
    have := h b hb
    omega
  have := (rng_sub (n := m) (a := 0) h1 fun x hx => by
    obtain ⟨y, hy, rfl⟩ := List.mem_map.mp hx
    have := h y hy
    omega).length_le
  rwa [List.length_map, List.length_range'] at this
theorem RuleOk.lt {m : Nat} {r : RuleT} (h : RuleOk m r) : ∀ x ∈ r.1, 0 ≤ x ∧ x < m := fun x hx => by
  obtain ⟨es, e1, _, lt⟩ := h.nats
  rw [e1] at hx
  obtain ⟨j, hj, rfl⟩ := List.mem_map.mp hx
  have := lt j hj
  omega
section
variable {m k : Nat} {r own : RuleT}
theorem earsT_lt (hr : RuleOk m r) (ho : RuleOk m own) : ∀ x ∈ earsT r own k, 0 ≤ x ∧ x < m := fun x hx => by
  rcases (earsT_mem.mp hx).1 with z | z
  · exact hr.lt x z
  · exact ho.lt x z
theorem earsT_len (hr : RuleOk m r) (ho : RuleOk m own) : (earsT r own k).length ≤ m := in_len setI_lt (earsT_lt hr ho)
theorem bits_put {E rd : List Int} (hE : (k : Int) ∉ E) (hl : E.length = rd.length) (h8 : E.length ≤ 1000) {v : Int} : putDic (dkI E rd) (.int (k : Nat)) (.int v) = .ok (dkI (E ++ [(k : Int)]) (rd ++ [v])) := by
  have n : (Sum.inl (k : Int) : Key) ∉ kt E := fun z => by
    obtain ⟨e, he, q⟩ := List.mem_map.mp z
    exact hE (by rw [← Sum.inl.inj q]; exact he)
  rw [d_putK, if_pos (szOk_of (by rw [List.length_map]; omega))]
  unfold putKs putDs
  rw [if_neg n, if_neg n]
  simp [dkI]
end
end H

set_option Elab.async false
set_option linter.all false
set_option maxRecDepth 100000
namespace H
open PySem PySem.Spec PyProof.Rows L2 Y
theorem xor_flip7 : ((List.range 8).all fun n => ((stands n).zip (List.range (2 ^ n))).all fun q => (List.range n).all fun k => decide (Builtin.bitXor (q.2 : Int) ((2 ^ (n - 1 - k) : Nat) : Int) = placeI (flipB q.1 k))) = true := by decide +kernel
theorem xor_place7 {n p k : Nat} (hn : n ≤ 7) (hp : p < 2 ^ n) (hk : k < n) : Builtin.bitXor (p : Int) ((2 ^ (n - 1 - k) : Nat) : Int) = placeI (flipB ((stands n).getD p []) k) := by
  have h := xor_flip7
  rw [List.all_eq_true] at h
  have h := h n (List.mem_range.mpr (by omega))
  rw [List.all_eq_true] at h
  have hl : p < (stands n).length := by rw [stands_len]; exact hp
  have e : (stands n).getD p [] = (stands n)[p] := by rw [List.getD_eq_getElem?_getD, List.getElem?_eq_getElem hl]; rfl
  have h := h ((stands n)[p], p) (List.mem_iff_getElem?.mpr ⟨p, List.getElem?_zip_eq_some.mpr ⟨List.getElem?_eq_getElem hl, by rw [List.getElem?_range hp]⟩⟩)
  rw [List.all_eq_true] at h
  rw [e]
  exact of_decide_eq_true (h k (List.mem_range.mpr hk))
section
variable {r : RuleT}
end
end H

set_option Elab.async false
set_option linter.all false
set_option maxRecDepth 100000
namespace H
open PySem PySem.Spec PyProof.Rows L2 Y
structure RuleW (m : Nat) (r : RuleT) : Prop where
  sub : ∃ es : List Nat, r.1 = es.map (fun j : Nat => (j : Int)) ∧ es.Sublist (List.range m)
  tab : r.2.length = 2 ^ r.1.length
  bit : ∀ x ∈ r.2, 0 ≤ x ∧ x < 2
theorem RuleOk.w {m : Nat} {r : RuleT} (h : RuleOk m r) : RuleW m r := ⟨h.sub, h.tab, h.bit⟩
theorem RuleW.nats {m : Nat} {r : RuleT} (h : RuleW m r) : ∃ es : List Nat, r.1 = es.map (fun j : Nat => (j : Int)) ∧ es.Nodup ∧ ∀ x ∈ es, x < m := by
  obtain ⟨es, e, s⟩ := h.sub
  exact ⟨es, e, s.nodup List.nodup_range, fun x hx => List.mem_range.mp (s.subset hx)⟩
section
variable {r : RuleT}
theorem thU_riseW {m : Nat} (ok : RuleW m r) : RiseI (thU r r.1.length) ∧ (∀ j ∈ thU r r.1.length, j ∈ rgI m) := by
  obtain ⟨es, e1, sub⟩ := ok.sub
  have rs : RiseI r.1 := by
    rw [e1]
    refine List.Pairwise.map _ (fun a b h => ?_) (List.Pairwise.sublist sub List.pairwise_lt_range)
    omega
  have inn : ∀ j ∈ thU r r.1.length, j ∈ r.1 := fun j hj => by
    obtain ⟨k, hk, rfl⟩ := List.mem_map.mp hj
    have := (hpL_lt hk).1
    rw [List.getD_eq_getElem?_getD, List.getElem?_eq_getElem this]
    exact List.getElem_mem this
  refine ⟨?_, fun j hj => ?_⟩
  · unfold RiseI at rs ⊢
    rw [thU_eq]
    have lt : (hpL r).Pairwise (· < ·) := List.Pairwise.sublist List.filter_sublist List.pairwise_lt_range
    refine List.pairwise_map.mpr (lt.imp_of_mem fun {a b} ha hb hab => ?_)
    have h1 := (hpL_lt ha).1
    have h2 := (hpL_lt hb).1
    rw [List.getD_eq_getElem?_getD, List.getElem?_eq_getElem h1, List.getD_eq_getElem?_getD, List.getElem?_eq_getElem h2]
    exact List.pairwise_iff_getElem.mp rs a b h1 h2 hab
  · have := inn j hj
    rw [e1] at this
    obtain ⟨x, hx, rfl⟩ := List.mem_map.mp this
    have := List.mem_range.mp (sub.subset hx)
    exact mem_rg.mpr ⟨by omega, by omega⟩
end
section
variable {m : Nat} {f : List Int → Int}
def ruleFn (r : RuleT) (st : List Int) : Int := tolI r (rdE r st)
end
end H

set_option Elab.async false
set_option linter.all false
set_option maxRecDepth 100000
namespace H
open PySem PySem.Spec PyProof.Rows L2 Y
section
variable {m : Nat} {f : List Int → Int}
end
end H

set_option Elab.async false
set_option linter.all false
set_option maxRecDepth 100000
namespace H
open PySem PySem.Spec PyProof.Rows L2 Y
def insI (st : List Int) (k : Nat) (b : Int) : List Int := st.take k ++ b :: st.drop k
def atS (S : List Int) (e : Int) : Int := S.getD e.toNat 0
def shE (k : Nat) (e : Int) : Int := e - (if e > (k : Int) then 1 else 0)
def bitsQ (ns : List RuleT) (k j : Nat) (st : List Int) : Int := oughtI ns (insI st k (oughtI ns (insI st k 0) k)) j
theorem insI_st {m k : Nat} {st : List Int} {b : Int} (h : IsSt (m - 1) st) (hk : k < m) (hb : 0 ≤ b ∧ b < 2) : IsSt m (insI st k b) := ⟨by
  have := h.len
  unfold insI
  rw [List.length_append, List.length_cons, List.length_take, List.length_drop]
  omega, fun x hx => by
  unfold insI at hx
  rcases List.mem_append.mp hx with z | z
  · exact h.bit x (List.mem_of_mem_take z)
  · rcases List.mem_cons.mp z with z | z
    · rw [z]; exact hb
    · exact h.bit x (List.mem_of_mem_drop z)⟩
theorem insI_at {st : List Int} {k : Nat} {b : Int} (hk : k ≤ st.length) {e : Nat} (h : e ≠ k) : (insI st k b).getD e 0 = st.getD (e - (if e > k then 1 else 0)) 0 := by
  unfold insI
  have lt : (st.take k).length = k := by rw [List.length_take]; omega
  rw [List.getD_eq_getElem?_getD, List.getD_eq_getElem?_getD]
  by_cases c : e < k
  · rw [List.getElem?_append_left (by rw [lt]; exact c), List.getElem?_take_of_lt c, if_neg (by omega), Nat.sub_zero]
  · rw [List.getElem?_append_right (by rw [lt]; omega), lt, if_pos (by omega)]
    obtain ⟨d, rfl⟩ : ∃ d, e = k + d + 1 := ⟨e - k - 1, by omega⟩
    rw [show k + d + 1 - k = d + 1 by omega, List.getElem?_cons_succ, List.getElem?_drop, show k + d + 1 - 1 = k + d by omega]
theorem valA_congr {r : RuleT} {a b : Int → Int} (h : ∀ e ∈ r.1, a e = b e) : valA r a = valA r b := by
  unfold valA
  rw [List.map_congr_left h]
theorem ought_val {ns : List RuleT} {S : List Int} {j : Nat} : oughtI ns S j = valA (ns.getD j ([], [])) (atS S) := rfl
theorem lkI_map {a : Int → Int} : ∀ {E : List Int} {e : Int}, e ∈ E → lkI E (E.map a) e = a e
  | [], e, h => by simp at h
  | x :: E, e, h => by
    show (if x = e then a x else lkI E (E.map a) e) = a e
    by_cases c : x = e
    · rw [if_pos c, c]
    · rw [if_neg c]
      exact lkI_map ((List.mem_cons.mp h).resolve_left fun z => c z.symm)
section
variable {m k : Nat} {r own : RuleT}
theorem slimR_map {R : RuleT} {g : Int → Int} : slimR (R.1.map g, R.2) = ((slimR R).1.map g, (slimR R).2) := by
  have h1 : hpL (R.1.map g, R.2) = hpL R := by
    unfold hpL hpP heardB
    simp only [List.length_map]
    rfl
  have h2 : ∀ rd, spread (R.1.map g, R.2) rd = spread R rd := fun rd => by
    unfold spread
    rw [h1]
    simp only [List.length_map]
  unfold slimR
  refine Prod.ext ?_ ?_
  · show thU (R.1.map g, R.2) (R.1.map g).length = (thU R R.1.length).map g
    show (hpL (R.1.map g, R.2)).map (fun i => (R.1.map g).getD i 0) = _
    rw [h1, thU_eq, List.map_map]
    refine List.map_congr_left fun i hi => ?_
    have := (hpL_lt hi).1
    rw [getD_mapL this]
    show g R.1[i] = g (R.1.getD i 0)
    rw [getD_lt this]
  · show (stands (hpL (R.1.map g, R.2)).length).map (fun rd => tolI (R.1.map g, R.2) (spread (R.1.map g, R.2) rd)) = (stands (hpL R).length).map fun rd => tolI R (spread R rd)
    rw [h1]
    refine List.map_congr_left fun rd _ => ?_
    rw [h2]
    rfl
theorem foldT_w (hr : RuleOk m r) (ho : RuleOk m own) : RuleW m (foldT r own k) := by
  unfold foldT
  by_cases c : (k : Int) ∈ r.1
  · rw [if_pos c]
    have lt := earsT_lt (k := k) hr ho
    have rs : (earsT r own k).Pairwise (· < ·) := setI_lt
    refine ⟨⟨(earsT r own k).map Int.toNat, ?_, ?_⟩, ?_, fun x hx => ?_⟩
    · show earsT r own k = _
      rw [List.map_map]
      conv => lhs; rw [← List.map_id (earsT r own k)]
      refine List.map_congr_left fun x hx => ?_
      have := lt x hx
      show x = ((x.toNat : Nat) : Int)
      omega
    · rw [List.range_eq_range']
      refine rng_sub ?_ fun x hx => ?_
      · refine List.pairwise_map.mpr (rs.imp_of_mem fun {a b} ha hb n => ?_)
        have := lt a ha
        have := lt b hb
        omega
      · obtain ⟨y, hy, rfl⟩ := List.mem_map.mp hx
        have := lt y hy
        omega
    · show (tabT r own k).length = _
      unfold tabT
      rw [List.length_map, stands_len]
    · have hx : x ∈ tabT r own k := hx
      unfold tabT at hx
      obtain ⟨rd, _, rfl⟩ := List.mem_map.mp hx
      exact valA_bit hr.lk
  · rw [if_neg c]; exact hr.w
theorem foldT_nk : (k : Int) ∉ (foldT r own k).1 := by
  unfold foldT
  by_cases c : (k : Int) ∈ r.1
  · rw [if_pos c]; exact fun z => (earsT_mem.mp z).2 rfl
  · rw [if_neg c]; exact c
def shRf (k : Nat) (R : RuleT) : RuleT := (R.1.map (shE k), R.2)
theorem shRf_w {R : RuleT} (h : RuleW m R) (hk : (k : Int) ∉ R.1) (hm : k < m) : RuleW (m - 1) (shRf k R) := by
  obtain ⟨es, e1, sub⟩ := h.sub
  have nk : k ∉ es := fun z => hk (by rw [e1]; exact List.mem_map.mpr ⟨k, z, rfl⟩)
  have lt : ∀ x ∈ es, x < m := fun x hx => List.mem_range.mp (sub.subset hx)
  have rp : es.Pairwise (· < ·) := List.Pairwise.sublist sub List.pairwise_lt_range
  refine ⟨⟨es.map fun e => e - (if e > k then 1 else 0), ?_, ?_⟩, ?_, h.bit⟩
  · show R.1.map (shE k) = _
    rw [e1, List.map_map, List.map_map]
    refine List.map_congr_left fun x hx => ?_
    show shE k (x : Int) = ((x - (if x > k then 1 else 0) : Nat) : Int)
    unfold shE
    by_cases c : x > k
    · rw [if_pos (by omega), if_pos c]; omega
    · rw [if_neg (by omega), if_neg c]; omega
  · rw [List.range_eq_range']
    refine rng_sub ?_ fun x hx => ?_
    · refine List.pairwise_map.mpr (rp.imp_of_mem fun {a b} ha hb n => ?_)
      have : a ≠ k := fun z => nk (by rw [← z]; exact ha)
      have : b ≠ k := fun z => nk (by rw [← z]; exact hb)
      split <;> split <;> omega
    · obtain ⟨y, hy, rfl⟩ := List.mem_map.mp hx
      have := lt y hy
      have : y ≠ k := fun z => nk (by rw [← z]; exact hy)
      split <;> omega
  · show R.2.length = 2 ^ (R.1.map (shE k)).length
    rw [List.length_map]; exact h.tab
theorem foldT_val (hr : RuleOk m r) (ho : RuleOk m own) (hk : (k : Int) ∉ own.1) {a : Int → Int} (ha : ∀ e, 0 ≤ a e ∧ a e < 2) : valA (foldT r own k) a = valA r (asgT own k a) := by
  unfold foldT
  by_cases c : (k : Int) ∈ r.1
  · rw [if_pos c]
    have hs : IsSt (earsT r own k).length ((earsT r own k).map a) := ⟨List.length_map _, fun x hx => by
      obtain ⟨e, _, rfl⟩ := List.mem_map.mp hx
      exact ha e⟩
    show (tabT r own k).getD (placeI ((earsT r own k).map a)).toNat 0 = _
    unfold tabT
    rw [List.getD_eq_getElem?_getD, List.getElem?_map, stands_at hs]
    show valA r (asgT own k (lkI (earsT r own k) ((earsT r own k).map a))) = _
    refine valA_congr fun e he => ?_
    unfold asgT
    by_cases d : e = (k : Int)
    · rw [if_pos d, if_pos d]
      refine valA_congr fun x hx => lkI_map (earsT_mem.mpr ⟨.inr hx, fun z => hk (by rw [← z]; exact hx)⟩)
    · rw [if_neg d, if_neg d]
      exact lkI_map (earsT_mem.mpr ⟨.inl he, d⟩)
  · rw [if_neg c]
    refine valA_congr fun e he => ?_
    unfold asgT
    rw [if_neg fun z => c (by rw [← z]; exact he)]
end
section
variable {ns : List RuleT} {most k j : Nat}
theorem slim_val (ok : NetOk ns most) (hk : k < ns.length) {S : List Int} (hS : IsSt ns.length S) : valA (slimR (ns.getD k ([], []))) (atS S) = valA (ns.getD k ([], [])) (atS S) := by
  have := slim_ought ok hk hS
  rw [ought_val, ought_val, slim_getD hk] at this
  exact this
theorem fold_bits (ok : NetOk ns most) (hk : k < ns.length) (hj : j < ns.length) (hn : (k : Int) ∉ (slimR (ns.getD k ([], []))).1) {st : List Int} (hs : IsSt (ns.length - 1) st) :
    bitsQ ns k j st = ruleFn (shRf k (foldT (ns.getD j ([], [])) (slimR (ns.getD k ([], []))) k)) st := by
  have rk := net_rule ok hk
  have rj := net_rule ok hj
  have ro := slim_ok4 rk
  have hl : k ≤ st.length := by rw [hs.len]; omega
  have s0 : IsSt ns.length (insI st k 0) := insI_st hs hk ⟨by omega, by omega⟩
  have at0 : ∀ e : Int, 0 ≤ e → e ≠ (k : Int) → ∀ b, atS (insI st k b) e = st.getD (shE k e).toNat 0 := fun e h0 h1 b => by
    obtain ⟨x, rfl⟩ : ∃ x : Nat, e = x := ⟨e.toNat, by omega⟩
    unfold atS shE
    rw [Int.toNat_natCast, insI_at hl (fun z => h1 (by rw [z]))]
    congr 1
    by_cases c : x > k
    · rw [if_pos c, if_pos (by omega)]; omega
    · rw [if_neg c, if_neg (by omega)]; omega
  generalize hr : ns.getD j ([], []) = r at *
  have e1 : oughtI ns (insI st k 0) k = valA (slimR (ns.getD k ([], []))) (fun e => st.getD (shE k e).toNat 0) := by
    rw [ought_val, ← slim_val ok hk s0]
    exact valA_congr fun e he => at0 e (ro.lt e he).1 (fun z => hn (by rw [← z]; exact he)) 0
  generalize slimR (ns.getD k ([], [])) = own at *
  have e2 : ruleFn (shRf k (foldT r own k)) st = valA (foldT r own k) fun e => st.getD (shE k e).toNat 0 := by
    unfold ruleFn rdE valA shRf
    show tolI ((foldT r own k).1.map (shE k), (foldT r own k).2) (((foldT r own k).1.map (shE k)).map fun e => st.getD e.toNat 0) = _
    rw [List.map_map]
    rfl
  rw [e2, foldT_val rj ro hn (fun e => getD_bit hs.bit _)]
  unfold bitsQ
  rw [ought_val, hr, e1]
  refine valA_congr fun e he => ?_
  unfold asgT
  by_cases d : e = (k : Int)
  · rw [if_pos d, d]
    unfold atS insI
    rw [Int.toNat_natCast, List.getD_eq_getElem?_getD, List.getElem?_append_right (by rw [List.length_take]; omega), List.length_take, Nat.min_eq_left hl, Nat.sub_self]
    rfl
  · rw [if_neg d]
    exact at0 e (rj.lt e he).1 d _
end
end H

set_option Elab.async false
set_option linter.all false
set_option maxRecDepth 100000
namespace H
open PySem PySem.Spec PyProof.Rows L2 Y
theorem for_er {tm : GM} {body : SM} {vs ws : List Nat} {x : D} {xs : List D} {ρ : Y.Env} {c : Str} {ds : List D} (h : turnF tm body vs x ρ = .er c ds) : forL tm body vs ws (x :: xs) ρ = .er c ds := by
  unfold turnF at h
  unfold forL
  cases h1 : (tm x ρ).nox with
  | stk => rw [h1] at h; cases h
  | er c2 d2 =>
    rw [h1] at h
    cases h
    rfl
  | ok ρ1 =>
    rw [h1] at h
    show (body ρ1 >>= _) = _
    have h : (body ρ1 >>= _) = _ := h
    cases h2 : body ρ1 with
    | stk => rw [h2] at h; cases h
    | er c2 d2 => rw [h2] at h; cases h; rfl
    | ok p =>
      rw [h2] at h
      obtain ⟨f, ρ2⟩ := p
      have h : (match f with | .nx => R.ok (Fl.nx, wipeE ρ2 vs) | .ct => R.ok (Fl.nx, wipeE ρ2 vs) | f => R.ok (f, ρ2)) = R.er c ds := h
      cases f <;> cases h
theorem zip_rangeG {α : Type} {d : α} {xs : List α} : (List.range xs.length).zip xs = (List.range xs.length).map fun i => (i, xs.getD i d) := by
  refine List.ext_getElem (by simp) fun i h1 h2 => ?_
  rw [List.length_map, List.length_range] at h2
  rw [List.getElem_zip, List.getElem_map, List.getElem_range, getD_lt h2]
abbrev ownQ (ns : List RuleT) (k : Nat) : RuleT := slimR (ns.getD k ([], []))
def foldQ (ns : List RuleT) (k j : Nat) : RuleT := shRf k (slimR (foldT (ns.getD j ([], [])) (ownQ ns k) k))
def othQ (ns : List RuleT) (k : Nat) : List Nat := (List.range ns.length).filter fun j => decide (j ≠ k)
def foldN (ns : List RuleT) (k : Nat) : List RuleT := (othQ ns k).map (foldQ ns k)
def manyQ (ns : List RuleT) (k : Nat) : Bool := (othQ ns k).any fun j => decide (4 < (foldQ ns k j).1.length)
section
variable {ns : List RuleT} {most k j : Nat}
theorem foldT_lk (ok : NetOk ns most) (h7 : ns.length ≤ 7) (hk : k < ns.length) (hj : j < ns.length) : RuleLk (foldT (ns.getD j ([], [])) (ownQ ns k) k) ∧ (foldT (ns.getD j ([], [])) (ownQ ns k) k).1.length ≤ 7 := by
  have rj := net_rule ok hj
  have ro := slim_ok4 (net_rule ok hk)
  have w := foldT_w (k := k) rj ro
  have l : (foldT (ns.getD j ([], [])) (ownQ ns k) k).1.length ≤ 7 := by
    unfold foldT
    split
    · have : (earsT (ns.getD j ([], [])) (ownQ ns k) k).length ≤ ns.length := earsT_len (k := k) rj ro
      show (earsT _ _ k).length ≤ 7
      omega
    · have := rj.len; omega
  exact ⟨⟨by omega, w.tab, w.bit⟩, l⟩
theorem foldQ_len (h : (slimR (foldT (ns.getD j ([], [])) (ownQ ns k) k)).1.length = n) : (foldQ ns k j).1.length = n := by
  unfold foldQ shRf
  show (List.map _ _).length = n
  rw [List.length_map]; exact h
end
end H

set_option Elab.async false
set_option linter.all false
set_option maxRecDepth 100000
namespace H
open PySem PySem.Spec PyProof.Rows L2 Y
section
variable {ns : List RuleT} {most k : Nat}
theorem othQ_mem {j : Nat} : j ∈ othQ ns k ↔ j < ns.length ∧ j ≠ k := by
  unfold othQ
  rw [List.mem_filter, List.mem_range, decide_eq_true_eq]
end
end H

set_option Elab.async false
set_option linter.all false
set_option maxRecDepth 100000
namespace H
open PySem PySem.Spec PyProof.Rows L2 Y
section
variable {ns : List RuleT} {most k : Nat}
theorem foldN_len (hk : k < ns.length) : (foldN ns k).length = ns.length - 1 := by
  unfold foldN othQ
  rw [List.length_map]
  have e : ((List.range ns.length).filter fun j => decide (j ≠ k)) = (List.range ns.length).erase k := by
    rw [List.Nodup.erase_eq_filter List.nodup_range]
    refine List.filter_congr fun j _ => ?_
    by_cases c : j = k <;> simp [c]
  rw [e, List.length_erase_of_mem (List.mem_range.mpr hk), List.length_range]
end
end H

set_option Elab.async false
set_option linter.all false
set_option maxRecDepth 100000
set_option maxHeartbeats 2000000
namespace H
open PySem PySem.Spec PyProof.Rows L2 Y
theorem len_tf {xs : List Int} : lenD [tf xs] = .ok (.int xs.length) := by
  show R.ok (D.int ((xs.map D.int).length : Nat)) = _
  rw [List.length_map]
theorem ninF_dec {x : Int} {xs : List Int} : ninFD (.int x) (tf xs) = .ok (.bl (!decide (x ∈ xs))) := by
  have := nin_tiZ (x := x) (xs := xs)
  have e : ninFD (.int x) (tf xs) = ninD (.int x) (ti xs) := by
    show (if (flatD (.int x) && (xs.map D.int).all flatD) = true then R.ok (D.bl (!(xs.map D.int).any fun z => eqP z (.int x))) else .stk) = (match (if (flatD (.int x) && (xs.map D.int).all flatD) = true then some ((xs.map D.int).any fun z => eqP z (.int x)) else none) with | some b => R.ok (D.bl (!b)) | none => .stk)
    split <;> rfl
  rw [e, this]
theorem add_tf {xs ys : List Int} (h : xs.length + ys.length ≤ 1000) : addGD (tf xs) (tf ys) = .ok (tf (xs ++ ys)) := by
  have z : szOk (xs.length + ys.length) = true := szOk_of (by omega)
  rw [d_addG, List.length_map, List.length_map, if_pos z]
  cases xs with
  | nil => rfl
  | cons x xs =>
    cases ys with
    | nil => simp
    | cons y ys => simp
theorem bit_for_okF {r : RuleT} {E V : List Int} (h : RuleLk r) (hl : E.length = V.length) (hv : ∀ x ∈ V, 0 ≤ x ∧ x < 2) (hs : ∀ e ∈ r.1, e ∈ E) : C.g_bit_for [dRuleF r, dkI E V] = .ok (.vl (.int (valA r (lkI E V)))) := by
  have c := comp_map (tm := tmName 2) (t := cYes) (e := C.e_bit_for_1) (vs := [2]) (ws := []) (ρ := [some (dRuleF r), some (dkI E V), none]) D.int (fun e => D.int (lkI E V e)) r.1 fun e he => by
    have f := find_in hl (hs e he)
    have gd : getDic (dkI E V) (.int e) = .ok (findD (kt E) (V.map D.int) (Sum.inl e)) := rfl
    simp only [turnC, C.e_bit_for_1]
    rw [f] at gd
    generalize dkI E V = B at *
    generalize dRuleF r = DR at *
    generalize lkI E V e = v at *
    simp [e_dget, gd]
  have e2 : (r.1.map fun e => D.int (lkI E V e)) = (r.1.map (lkI E V)).map D.int := by rw [List.map_map]; rfl
  rw [e2] at c
  have hb : ∀ x ∈ r.1.map (lkI E V), 0 ≤ x ∧ x < 2 := fun x hx => by
    obtain ⟨e, _, rfl⟩ := List.mem_map.mp hx
    exact lkI_bit hv
  have po := place_of_lst (xs := r.1.map (lkI E V)) (by rw [List.length_map]; have := h.len; omega)
  have pl := placeI_lt hb
  rw [List.length_map] at pl
  have a2 := atI_mapI (xs := r.2) (i := placeI (r.1.map (lkI E V))) pl.1 (by rw [h.tab]; exact_mod_cast pl.2)
  have a2 : atI (r.2.map D.int) (placeI (r.1.map (lkI E V))) = some (.int (valA r (lkI E V))) := a2
  have x0 : ixD (dRuleF r) (.int 0) = .ok (tf r.1) := rfl
  have x1 : ixD (dRuleF r) (.int 1) = .ok (ti r.2) := rfl
  have x2 : ixD (ti r.2) (.int (placeI (r.1.map (lkI E V)))) = .ok (.int (valA r (lkI E V))) := by
    show (match atI (r.2.map D.int) _ with | some d => Y.R.ok d | none => Y.R.stk) = _
    rw [a2]
  have z : szOk (r.1.map D.int).length = true := szOk_of (by rw [List.length_map]; have := h.len; omega)
  have z2 : szOk ((r.1.map (lkI E V)).map D.int).length = true := szOk_of (by rw [List.length_map, List.length_map]; have := h.len; omega)
  have it : itD (tf r.1) = .ok (r.1.map D.int) := rfl
  simp only [C.g_bit_for, C.m_bit_for]
  generalize valA r (lkI E V) = v at *
  generalize placeI (r.1.map (lkI E V)) = pv at *
  generalize (r.1.map (lkI E V)).map D.int = AV at *
  generalize dkI E V = B at *
  generalize C.e_bit_for_1 = E1 at *
  generalize dRuleF r = DR at *
  generalize hT : ti r.2 = T2 at *
  generalize hT1 : tf r.1 = T1 at *
  generalize r.1.map D.int = L1 at *
  simp [e_fnP, x0, x1, it, z, c, z2, po, x2]
section
variable {r own : RuleT} {m k : Nat}
theorem told_turnF (hr : RuleOk m r) (ho : RuleOk m own) (hk : (k : Int) ∉ own.1) (hm : m ≤ 7) {rd : List Int} (hrd : IsSt (earsT r own k).length rd) {TD : List D} (hT : TD.length ≤ 1000) {o5 o6 : Option D} :
    turnF (tmName 5) C.b_told_without_2_1 [5, 6] (ti rd) [some (dRuleF r), some (.int k), some (dRuleF own), some (.lst ((earsT r own k).map D.int)), some (.lst TD), o5, o6] = .ok (.nx, [some (dRuleF r), some (.int k), some (dRuleF own), some (.lst ((earsT r own k).map D.int)), some (.lst (TD ++ [.int (valA r (asgT own k (lkI (earsT r own k) rd)))])), none, none]) := by
  have l7 := earsT_len (k := k) hr ho
  have hE : (k : Int) ∉ earsT r own k := fun z => (earsT_mem.mp z).2 rfl
  have nd := earsT_nd (r := r) (own := own) (k := k)
  have hl := hrd.len
  have sub1 : ∀ e ∈ own.1, e ∈ earsT r own k := fun e he => earsT_mem.mpr ⟨.inr he, fun z => hk (by rw [← z]; exact he)⟩
  have sub2 : ∀ e ∈ r.1, e ∈ earsT r own k ++ [(k : Int)] := fun e he => by
    by_cases c : e = (k : Int)
    · simp [c]
    · exact List.mem_append_left _ (earsT_mem.mpr ⟨.inl he, c⟩)
  have b1 := bit_for_okF (V := rd) ho.lk hl.symm hrd.bit sub1
  have bv := valA_bit (a := lkI (earsT r own k) rd) ho.lk
  have pt := bits_put (v := valA own (lkI (earsT r own k) rd)) hE hl.symm (by omega)
  have b2 := bit_for_okF (E := earsT r own k ++ [(k : Int)]) (V := rd ++ [valA own (lkI (earsT r own k) rd)]) hr.lk (by simp [hl]) (fun x hx => by
    rcases List.mem_append.mp hx with z | z
    · exact hrd.bit x z
    · rw [List.mem_singleton] at z; rw [z]; exact bv) sub2
  have ea : lkI (earsT r own k ++ [(k : Int)]) (rd ++ [valA own (lkI (earsT r own k) rd)]) = asgT own k (lkI (earsT r own k) rd) := funext fun e => lkI_snoc hE hl.symm
  rw [ea] at b2
  have nde : (kt (earsT r own k)).Nodup := List.Pairwise.map (R := (· ≠ ·)) _ (fun a b h z => h (Sum.inl.inj z)) nd
  have dz : dictZ (.lst ((earsT r own k).map D.int)) (ti rd) = .ok (dkI (earsT r own k) rd) := by
    show (if ((earsT r own k).map D.int).length = (rd.map D.int).length ∧ szOk ((earsT r own k).map D.int).length = true then _ else _) = _
    rw [if_pos ⟨by rw [List.length_map, List.length_map, hl], szOk_of (by rw [List.length_map]; omega)⟩, keys_ti]
    show (if (kt _).Nodup then _ else _) = _
    rw [if_pos nde]
  have zt : szOk (TD.length + 1) = true := szOk_of (by omega)
  simp only [turnF, C.b_told_without_2_1]
  generalize valA r (asgT own k (lkI (earsT r own k) rd)) = v2 at *
  generalize valA own (lkI (earsT r own k) rd) = v1 at *
  unfold dkI at dz b1 b2 pt
  generalize kt (earsT r own k ++ [(k : Int)]) = K2 at *
  generalize (rd ++ [v1]).map D.int = V2 at *
  generalize kt (earsT r own k) = K1 at *
  generalize hV1 : rd.map D.int = V1 at *
  generalize dRuleF r = DR at *
  generalize dRuleF own = DO at *
  generalize ti rd = RD at *
  generalize (earsT r own k).map D.int = ED at *
  have ow1 : intsOf V1 = some rd := by rw [← hV1]; exact ints_map rd
  simp [dz, b1, b2, pt, zt, ow1, -d_putK]
theorem told_loopF (hr : RuleOk m r) (ho : RuleOk m own) (hk : (k : Int) ∉ own.1) (hm : m ≤ 7) : ∀ (L : List (List Int)) (TD : List D) (o5 o6 : Option D), (∀ rd ∈ L, IsSt (earsT r own k).length rd) → TD.length + L.length ≤ 1000 →
    ∃ o5' o6', forL (tmName 5) C.b_told_without_2_1 [5, 6] [] (L.map ti) [some (dRuleF r), some (.int k), some (dRuleF own), some (.lst ((earsT r own k).map D.int)), some (.lst TD), o5, o6] = .ok (.nx, [some (dRuleF r), some (.int k), some (dRuleF own), some (.lst ((earsT r own k).map D.int)), some (.lst (TD ++ (L.map fun rd => valA r (asgT own k (lkI (earsT r own k) rd))).map D.int)), o5', o6'])
  | [], TD, o5, o6, _, _ => ⟨o5, o6, by rw [List.map_nil, List.map_nil, List.map_nil, List.append_nil]; rfl⟩
  | rd :: L, TD, o5, o6, hL, hz => by
    rw [List.length_cons] at hz
    have t := told_turnF hr ho hk hm (hL rd (by simp)) (TD := TD) (by omega) (o5 := o5) (o6 := o6)
    obtain ⟨a, b, e⟩ := told_loopF hr ho hk hm L (TD ++ [.int (valA r (asgT own k (lkI (earsT r own k) rd)))]) none none (fun x hx => hL x (by simp [hx])) (by simp; omega)
    refine ⟨a, b, for_cons t (fun _ z => by cases z) (e.trans ?_)⟩
    rw [List.map_cons, List.map_cons, List.append_assoc]
    rfl
theorem told_wo_okF (hr : RuleOk m r) (ho : RuleOk m own) (hk : (k : Int) ∉ own.1) (hm : m ≤ 7) : C.g_told_without_2 [dRuleF r, .int k, dRuleF own] = .ok (.fr (dRuleF (foldT r own k))) ∨ C.g_told_without_2 [dRuleF r, .int k, dRuleF own] = .ok (.vl (dRuleF (foldT r own k))) := by
  have nin := ninF_dec (x := (k : Int)) (xs := r.1)
  have x0 : ixD (dRuleF r) (.int 0) = .ok (tf r.1) := rfl
  have y0 : ixD (dRuleF own) (.int 0) = .ok (tf own.1) := rfl
  unfold foldT
  by_cases c : (k : Int) ∈ r.1
  · rw [decide_eq_true c] at nin
    rw [if_pos c]
    refine .inl ?_
    have l7 := earsT_len (k := k) hr ho
    have l1 := hr.len
    have l2 := ho.len
    have ad : addGD (tf r.1) (tf own.1) = .ok (tf (r.1 ++ own.1)) := add_tf (by omega)
    have dd : (dedupI (r.1 ++ own.1)).length ≤ m := by
      rw [← setI_len]
      refine in_len setI_lt fun x hx => ?_
      rw [setI_mem, List.mem_append] at hx
      exact hx.elim (hr.lt x) (ho.lt x)
    have dk : (dedupI [(k : Int)]).length = 1 := rfl
    have cond : [(k : Int)].length ≤ 4000 ∧ (dedupI (r.1 ++ own.1)).length < 64 ∧ (dedupI (r.1 ++ own.1)).length / 4 ≤ (dedupI [(k : Int)]).length := ⟨by simp, by omega, by rw [dk]; omega⟩
    have c1 : (r.1 ++ own.1).length ≤ 4000 := by rw [List.length_append]; omega
    have s1 : seqG (tf (r.1 ++ own.1)) = some (r.1 ++ own.1) := seqG_f
    have s2 : seqG (.lst [D.int (k : Int)]) = some [(k : Int)] := rfl
    obtain ⟨a, b, lp⟩ := told_loopF hr ho hk hm (stands (earsT r own k).length) [] none none (fun x hx => stands_st hx) (by
      rw [stands_len]
      have : 2 ^ (earsT r own k).length ≤ 2 ^ 7 := Nat.pow_le_pow_right (by omega) (by omega)
      simp; omega)
    rw [List.nil_append] at lp
    have so : C.g_stands_of [.int (earsT r own k).length] = .ok (.vl (.lst ((stands (earsT r own k).length).map ti))) := stands_of_ok (m := (earsT r own k).length) (by omega)
    have p7 : 2 ^ (earsT r own k).length ≤ 2 ^ 7 := Nat.pow_le_pow_right (by omega) (by omega)
    have zs : szOk ((stands (earsT r own k).length).map ti).length = true := szOk_of (by rw [List.length_map, stands_len]; omega)
    have le : lenD [.lst ((earsT r own k).map D.int)] = .ok (.int (earsT r own k).length) := by rw [d_lenL, List.length_map]
    have t1 : tupleFD [.lst ((earsT r own k).map D.int)] = .ok (tf (earsT r own k)) := rfl
    have t2 : tupleD [.lst ((tabT r own k).map D.int)] = .ok (ti (tabT r own k)) := rfl
    have ee : lessI (r.1 ++ own.1) [(k : Int)] = earsT r own k := rfl
    have et : (stands (earsT r own k).length).map (fun rd => valA r (asgT own k (lkI (earsT r own k) rd))) = tabT r own k := rfl
    rw [et] at lp
    have zl : szOk ((tabT r own k).map D.int).length = true := szOk_of (by rw [List.length_map]; unfold tabT; rw [List.length_map, stands_len]; omega)
    have ze : szOk ((earsT r own k).map D.int).length = true := szOk_of (by rw [List.length_map]; omega)
    have nE : nls ((earsT r own k).map D.int) = true := nls_map fun _ _ => rfl
    have nT : nls ((tabT r own k).map D.int) = true := nls_map fun _ _ => rfl
    show _ = Y.R.ok (Hd.fr (.tup [tf (earsT r own k), ti (tabT r own k)]))
    simp only [C.g_told_without_2, C.m_told_without_2]
    generalize hTT : ti (tabT r own k) = TT at *
    generalize (tabT r own k).map D.int = TL at *
    generalize hEE : tf (earsT r own k) = EE at *
    generalize (stands (earsT r own k).length).map ti = SL at *
    generalize ((earsT r own k).length : Int) = EN at *
    generalize earsT r own k = ET at *
    generalize r.1 ++ own.1 = RO at *
    generalize hA : ti RO = A at *
    generalize dRuleF r = DR at *
    generalize dRuleF own = DO at *
    generalize C.b_told_without_2_1 = B1 at *
    generalize tf r.1 = R1 at *
    generalize tf own.1 = O1 at *
    simp [e_fnP, x0, y0, nin, ad, s1, s2, cond, c1, ee, le, so, zs, lp, t1, t2, zl, ze, nE, nT, shAt, chkO_ws, szOk_of, -d_lenL]
  · rw [decide_eq_false c] at nin
    rw [if_neg c]
    refine .inr ?_
    simp only [C.g_told_without_2, C.m_told_without_2]
    generalize C.b_told_without_2_1 = B1 at *
    generalize dRuleF r = DR at *
    generalize dRuleF own = DO at *
    generalize tf r.1 = R1 at *
    simp [e_fnP, x0, nin]
end
theorem heard7_okF {r : RuleT} (h : RuleLk r) (h4 : r.1.length ≤ 7) : C.g_heard [dRuleF r] = .ok (.fr (.lst ((hpP r r.1.length).map (dHp r)))) := by
  have nm : numD (r.1.map D.int) = ((List.range r.1.length).zip r.1).map fun p => D.tup [.int (p.1 : Nat), .int p.2] := numD_map
  have lz : ((List.range r.1.length).zip r.1).length = r.1.length := by rw [List.length_zip, List.length_range, Nat.min_self]
  have p2 : 2 ^ r.1.length ≤ 2 ^ 7 := Nat.pow_le_pow_right (by omega) h4
  have p1 : 1 ≤ 2 ^ r.1.length := Nat.one_le_two_pow
  have ht := h.tab
  have lp := for_idx (tm := tmTup [4, 5]) (body := C.b_heard_1) (vs := [4, 5, 6]) (ws := []) (fun p : Nat × Int => D.tup [.int (p.1 : Nat), .int p.2]) ((List.range r.1.length).zip r.1) (fun i => [some (dRuleF r), some (tf r.1), some (ti r.2), some (.lst ((hpP r i).map (dHp r))), none, none, none, none]) fun i hi => by
    have hi2 : i < r.1.length := by rw [lz] at hi; exact hi
    refine ⟨by simp, ?_⟩
    rw [List.getElem_zip, List.getElem_range]
    have eg : r.1.getD i 0 = r.1[i] := by rw [List.getD_eq_getElem?_getD, List.getElem?_eq_getElem hi2]; rfl
    have hl := hpP_len (r := r) (i := i)
    have zl : szOk ((hpP r i).length + 1) = true := szOk_of (by omega)
    have ha := heard_any (r := r) hi2
    rw [← eg, hpP_succ]
    have ls : lenD [tf r.1] = .ok (.int r.1.length) := len_tf
    have lt : lenD [ti r.2] = .ok (.int (2 ^ r.1.length : Nat)) := by rw [d_lenT, List.length_map, ht]
    have sh : shlD (.int 1) (.int ((r.1.length : Int) - 1 - i)) = .ok (.int ((2 ^ (r.1.length - 1 - i) : Nat) : Int)) := by
      rw [show ((r.1.length : Int) - 1 - i) = ((r.1.length - 1 - i : Nat) : Int) by omega]
      exact shl1 (by omega)
    have c := comp_map (tm := tmName 7) (t := cYes) (e := C.e_heard_1) (vs := [7]) (ws := []) (ρ := [some (dRuleF r), some (tf r.1), some (ti r.2), some (.lst ((hpP r i).map (dHp r))), some (.int i), some (.int (r.1.getD i 0)), some (.int ((2 ^ (r.1.length - 1 - i) : Nat) : Int)), none]) (fun p : Nat => D.int (p : Nat)) (fun p => D.bl (!decide (tolI r ((stands r.1.length).getD p []) = tolI r (flipB ((stands r.1.length).getD p []) i)))) (List.range (2 ^ r.1.length)) fun p hp => by
      have hp := List.mem_range.mp hp
      obtain ⟨g1, g2⟩ := getD_stands hp
      have xp := xor_place7 h4 hp hi2
      have hs := stands_st g1
      have fs := flpB_st hs hi2
      have pl := placeI_lt fs.bit
      rw [fs.len] at pl
      have a1 := atI_mapI (xs := r.2) (i := (p : Int)) (by omega) (by omega)
      have a2 := atI_mapI (xs := r.2) (i := placeI (flipB ((stands r.1.length).getD p []) i)) pl.1 (by rw [ht]; exact_mod_cast pl.2)
      have t1 : tolI r ((stands r.1.length).getD p []) = r.2.getD p 0 := by unfold tolI; rw [g2]; rfl
      have t2 : tolI r (flipB ((stands r.1.length).getD p []) i) = r.2.getD (placeI (flipB ((stands r.1.length).getD p []) i)).toNat 0 := rfl
      rw [Int.toNat_natCast, ← t1] at a1
      rw [← t2] at a2
      have i1 : ixD (ti r.2) (.int p) = .ok (.int (tolI r ((stands r.1.length).getD p []))) := by
        show (match atI (r.2.map D.int) (p : Int) with | some d => Y.R.ok d | none => Y.R.stk) = _
        rw [a1]
      have i2 : ixD (ti r.2) (.int (placeI (flipB ((stands r.1.length).getD p []) i))) = .ok (.int (tolI r (flipB ((stands r.1.length).getD p []) i))) := by
        show (match atI (r.2.map D.int) _ with | some d => Y.R.ok d | none => Y.R.stk) = _
        rw [a2]
      have xo : xorD (.int p) (.int ((2 ^ (r.1.length - 1 - i) : Nat) : Int)) = .ok (.int (placeI (flipB ((stands r.1.length).getD p []) i))) := by rw [d_xor, xp]
      simp only [turnC, C.e_heard_1]
      generalize placeI (flipB ((stands r.1.length).getD p []) i) = pf at *
      generalize tolI r (flipB ((stands r.1.length).getD p []) i) = v2 at *
      generalize tolI r ((stands r.1.length).getD p []) = v1 at *
      generalize ((2 ^ (r.1.length - 1 - i) : Nat) : Int) = far at *
      generalize dRuleF r = DR at *
      generalize tf r.1 = T1 at *
      generalize ti r.2 = T2 at *
      generalize (hpP r i).map (dHp r) = FD at *
      simp [i1, i2, xo, -d_xor]
    have e2 : ((List.range (2 ^ r.1.length)).map fun p => D.bl (!decide (tolI r ((stands r.1.length).getD p []) = tolI r (flipB ((stands r.1.length).getD p []) i)))) = ((List.range (2 ^ r.1.length)).map fun p => !decide (tolI r ((stands r.1.length).getD p []) = tolI r (flipB ((stands r.1.length).getD p []) i))).map D.bl := by rw [List.map_map]; rfl
    rw [e2] at c
    have an : anyD [.lst (((List.range (2 ^ r.1.length)).map fun p => !decide (tolI r ((stands r.1.length).getD p []) = tolI r (flipB ((stands r.1.length).getD p []) i))).map D.bl)] = .ok (.bl (heardB r i)) := by
      rw [d_any]
      refine congrArg (fun q => Y.R.ok (D.bl q)) ?_
      rw [List.any_map, ← ha]
      rfl
    have zb : szOk (((List.range (2 ^ r.1.length)).map fun p => !decide (tolI r ((stands r.1.length).getD p []) = tolI r (flipB ((stands r.1.length).getD p []) i))).map D.bl).length = true := szOk_of (by rw [List.length_map, List.length_map, List.length_range]; omega)
    generalize ((List.range (2 ^ r.1.length)).map fun p => !decide (tolI r ((stands r.1.length).getD p []) = tolI r (flipB ((stands r.1.length).getD p []) i))).map D.bl = BD at *
    have rk : rngOk (2 ^ r.1.length : Nat) = true := rngOk_of (by omega) (by omega)
    have zk : szOk (2 ^ r.1.length) = true := szOk_of (by omega)
    have ed : dHp r i = .tup [.int i, .int (r.1.getD i 0)] := rfl
    generalize hN : 2 ^ r.1.length = N2 at *
    generalize (2 ^ (r.1.length - 1 - i) : Nat) = far at *
    cases ch : heardB r i with
    | false =>
      rw [ch] at an
      rw [if_neg Bool.false_ne_true]
      simp only [turnF, C.b_heard_1]
      generalize C.e_heard_1 = E1 at *
      generalize (hpP r i).map (dHp r) = FD at *
      generalize r.1.getD i 0 = ear at *
      generalize tf r.1 = T1 at *
      generalize ti r.2 = T2 at *
      generalize dRuleF r = DR at *
      simp [ls, lt, sh, rk, zk, c, zb, an, -d_any, -d_lenT, -d_shl]
    | true =>
      rw [ch] at an
      rw [if_pos rfl, List.map_append, List.map_singleton, ed]
      have zl2 : szOk (((hpP r i).map (dHp r)).length + 1) = true := by rw [List.length_map]; exact zl
      simp only [turnF, C.b_heard_1]
      generalize C.e_heard_1 = E1 at *
      generalize (hpP r i).map (dHp r) = FD at *
      generalize r.1.getD i 0 = ear at *
      generalize tf r.1 = T1 at *
      generalize ti r.2 = T2 at *
      generalize dRuleF r = DR at *
      simp [ls, lt, sh, rk, zk, c, zb, an, zl2, szOk_of, -d_any, -d_lenT, -d_shl]
  rw [lz] at lp
  have lp : forL (tmTup [4, 5]) C.b_heard_1 [4, 5, 6] [] (((List.range r.1.length).zip r.1).map fun p => D.tup [.int (p.1 : Nat), .int p.2]) [some (dRuleF r), some (tf r.1), some (ti r.2), some (.lst []), none, none, none, none] = _ := lp
  rw [← nm] at lp
  have zn : szOk (numD (r.1.map D.int)).length = true := by rw [nm, List.length_map, lz]; exact szOk_of (by omega)
  have zr : szOk r.1.length = true := szOk_of (by omega)
  have it : itD (tf r.1) = .ok (r.1.map D.int) := rfl
  simp only [C.g_heard, C.m_heard]
  generalize C.b_heard_1 = B at *
  generalize (hpP r r.1.length).map (dHp r) = TH at *
  generalize hN : numD (r.1.map D.int) = ND at *
  simp [e_fnP, itD, hN, zn, zr, lp, shAt, chkO_ws, szOk_of]
section
variable {r : RuleT}
theorem spread7_loopF {rd : List Int} (hr : IsSt (hpL r).length rd) (h4 : r.1.length ≤ 7) {x0 x1 x2 x3 : Option D} {o : Option D} : ∃ o', forL (tmMix [tmName 5, tmTup [6, 7]]) C.b_slim_rule_2_1 [5, 6] [] ((rd.zip (hpL r)).map fun p => D.tup [.int p.1, dHp r p.2]) [x0, x1, x2, x3, some (.lst ((List.replicate r.1.length (0 : Int)).map D.int)), none, none, o] = .ok (.nx, [x0, x1, x2, x3, some (.lst ((spread r rd).map D.int)), none, none, o']) := by
  have lp := for_run (tm := tmMix [tmName 5, tmTup [6, 7]]) (body := C.b_slim_rule_2_1) (vs := [5, 6]) (ws := []) (fun p : Int × Nat => D.tup [.int p.1, dHp r p.2]) (fun s : List Int × Option D => [x0, x1, x2, x3, some (.lst (s.1.map D.int)), none, none, s.2]) (fun s p => (s.1.set p.2 p.1, some (.int (r.1.getD p.2 0)))) (fun s => s.1.length = r.1.length) (rd.zip (hpL r)) (List.replicate r.1.length (0 : Int), o) (by simp) fun s p hs hp => by
    obtain ⟨b, k⟩ := p
    have hk := (hpL_lt (List.of_mem_zip hp).2).1
    have ix := ixN_nat (n := s.1.length) (k := k) (by rw [hs]; exact hk)
    refine ⟨by simpa using hs, by simp, ?_⟩
    simp only [turnF, C.b_slim_rule_2_1, dHp]
    generalize r.1.getD k 0 = ear at *
    simp [ix]
  have ef : ∀ (L : List (Int × Nat)) (s : List Int × Option D), (L.foldl (fun s p => (s.1.set p.2 p.1, some (D.int (r.1.getD p.2 0)))) s).1 = setF s.1 L := by
    intro L
    induction L with
    | nil => intro s; rfl
    | cons q L ih => intro s; rw [List.foldl_cons, ih]; rfl
  have l1 := lp.1
  rw [ef] at l1
  exact ⟨_, l1⟩
theorem slim_rule7_okF (h : RuleLk r) (h4 : r.1.length ≤ 7) : C.g_slim_rule_2 [dRuleF r] = .ok (.fr (dRuleF (slimR r))) := by
  have hd := heard7_okF h h4
  have hl : (hpL r).length ≤ 7 := Nat.le_trans hpP_len h4
  have so := stands_of_ok (m := (hpL r).length) (by omega)
  have sl := stands_len (hpL r).length
  have p2 : 2 ^ (hpL r).length ≤ 2 ^ 7 := Nat.pow_le_pow_right (by omega) hl
  have mu : mulD (.lst [.int 0]) (.int r.1.length) = .ok (.lst ((List.replicate r.1.length (0 : Int)).map D.int)) := by
    have c : ((r.1.length : Nat) : Int) < 2 ^ 20 ∧ -(2 ^ 20) < ((r.1.length : Nat) : Int) ∧ szOk ([D.int 0].length * ((r.1.length : Nat) : Int).toNat) = true := ⟨by omega, by omega, szOk_of (by simp; omega)⟩
    rw [d_mulL, if_pos c, Int.toNat_natCast, List.flatten_replicate_singleton, List.map_replicate]
  -- the table grows
  have lp : ∀ (L : List (List Int)) (T : List Int) (o : Option D), (∀ rd ∈ L, IsSt (hpL r).length rd) → T.length + L.length ≤ 1000 → ∃ o', forL (tmName 3) C.b_slim_rule_2_2 [3, 4, 5, 6] [] (L.map ti) [some (dRuleF r), some (.lst ((hpL r).map (dHp r))), some (.lst (T.map D.int)), none, none, none, none, o] = .ok (.nx, [some (dRuleF r), some (.lst ((hpL r).map (dHp r))), some (.lst ((T ++ L.map fun rd => tolI r (spread r rd)).map D.int)), none, none, none, none, o']) := by
    intro L
    induction L with
    | nil => intro T o _ _; exact ⟨o, by rw [List.map_nil, List.map_nil, List.append_nil]; rfl⟩
    | cons rd L ih =>
      intro T o hL hT
      have hr := hL rd (by simp)
      obtain ⟨o1, il⟩ := spread7_loopF hr h4 (x0 := some (dRuleF r)) (x1 := some (.lst ((hpL r).map (dHp r)))) (x2 := some (.lst (T.map D.int))) (x3 := some (ti rd)) (o := o)
      obtain ⟨o2, e⟩ := ih (T ++ [tolI r (spread r rd)]) o1 (fun x hx => hL x (by simp [hx])) (by simp at hT ⊢; omega)
      refine ⟨o2, for_cons (ρ' := [some (dRuleF r), some (.lst ((hpL r).map (dHp r))), some (.lst ((T ++ [tolI r (spread r rd)]).map D.int)), none, none, none, none, o1]) ?_ (fun _ z => by cases z) (e.trans ?_)⟩
      · have ss := spread_st hr
        have zg : zipGD (ti rd) (.lst ((hpL r).map (dHp r))) = .ok ((rd.zip (hpL r)).map fun p => D.tup [.int p.1, dHp r p.2]) := by rw [← pairs_map]; rfl
        have zl : szOk ((rd.zip (hpL r)).map fun p => D.tup [.int p.1, dHp r p.2]).length = true := szOk_of (by rw [List.length_map, List.length_zip]; omega)
        have po := place_of_lst (xs := spread r rd) (by rw [ss.len]; omega)
        have pl := placeI_lt ss.bit
        rw [ss.len] at pl
        have a2 := atI_mapI (xs := r.2) (i := placeI (spread r rd)) pl.1 (by rw [h.tab]; exact_mod_cast pl.2)
        have a2 : atI (r.2.map D.int) (placeI (spread r rd)) = some (.int (tolI r (spread r rd))) := a2
        have zt : szOk (T.length + 1) = true := szOk_of (by simp at hT; omega)
        have l0 : lenD [tf r.1] = .ok (.int r.1.length) := len_tf
        have x0 : ixD (dRuleF r) (.int 0) = .ok (tf r.1) := rfl
        have x1 : ixD (dRuleF r) (.int 1) = .ok (ti r.2) := rfl
        have x2 : ixD (ti r.2) (.int (placeI (spread r rd))) = .ok (.int (tolI r (spread r rd))) := by
          show (match atI (r.2.map D.int) _ with | some d => Y.R.ok d | none => Y.R.stk) = _
          rw [a2]
        simp only [turnF, C.b_slim_rule_2_2]
        rw [List.map_append]
        have zt2 : szOk ((T.map D.int).length + 1) = true := by rw [List.length_map]; exact zt
        have nlz : nls ((spread r rd).map D.int) = true := nls_map fun _ _ => rfl
        generalize tolI r (spread r rd) = v at *
        generalize placeI (spread r rd) = pv at *
        generalize (spread r rd).map D.int = SD at *
        generalize ((rd.zip (hpL r)).map fun p => D.tup [.int p.1, dHp r p.2]) = ZD at *
        generalize (hpL r).map (dHp r) = HD at *
        generalize T.map D.int = TD at *
        generalize hRz : (List.replicate r.1.length (0 : Int)).map D.int = RZ at *
        generalize dRuleF r = DR at *
        generalize ti rd = RD at *
        generalize tf r.1 = T1 at *
        generalize ti r.2 = T2 at *
        generalize C.b_slim_rule_2_1 = B1 at *
        simp [l0, x0, x1, mu, zg, zl, il, po, x2, zt2, nlz, shAt, chkO_ws, szOk_of, -d_mulL, -d_lenT, -d_zipG]
      · rw [List.map_cons, List.append_assoc]
        rfl
  obtain ⟨o', l⟩ := lp (stands (hpL r).length) [] none (fun rd hr => stands_st hr) (by simp; omega)
  have c := fun (T : D) => comp_map (tm := tmTup [6, 7]) (t := cYes) (e := C.e_slim_rule_2_1) (vs := [6, 7]) (ws := []) (ρ := [some (dRuleF r), some (.lst ((hpL r).map (dHp r))), some T, none, none, none, none, none]) (dHp r) (fun k => D.int (r.1.getD k 0)) (hpL r) fun k hk => by
    simp only [turnC, C.e_slim_rule_2_1, dHp]
    generalize r.1.getD k 0 = ear at *
    generalize (hpL r).map (dHp r) = HD at *
    simp
  have e2 : ((hpL r).map fun k => D.int (r.1.getD k 0)) = (thU r r.1.length).map D.int := by unfold thU; rw [List.map_map]; rfl
  simp only [e2] at c
  have zs : szOk ((stands (hpL r).length).map ti).length = true := szOk_of (by rw [List.length_map]; omega)
  have zh : szOk ((hpL r).map (dHp r)).length = true := szOk_of (by rw [List.length_map]; omega)
  have lh : lenD [.lst ((hpL r).map (dHp r))] = .ok (.int (hpL r).length) := by rw [d_lenL, List.length_map]
  have so : C.g_stands_of [.int (hpL r).length] = .ok (.vl (.lst ((stands (hpL r).length).map ti))) := so
  have zu : szOk ((thU r r.1.length).map D.int).length = true := szOk_of (by rw [List.length_map]; have := thU_len (r := r) (i := r.1.length); omega)
  have hd : C.g_heard [dRuleF r] = .ok (.fr (.lst ((hpL r).map (dHp r)))) := hd
  rw [List.nil_append] at l
  have l : forL (tmName 3) C.b_slim_rule_2_2 [3, 4, 5, 6] [] ((stands (hpL r).length).map ti) [some (dRuleF r), some (.lst ((hpL r).map (dHp r))), some (.lst []), none, none, none, none, none] = _ := l
  have zt : szOk (((stands (hpL r).length).map fun rd => tolI r (spread r rd)).map D.int).length = true := szOk_of (by rw [List.length_map, List.length_map]; omega)
  have nlt : nls (((stands (hpL r).length).map fun rd => tolI r (spread r rd)).map D.int) = true := nls_map fun _ _ => rfl
  show _ = Y.R.ok (Hd.fr (.tup [.ftu ((thU r r.1.length).map D.int), .tup (((stands (hpL r).length).map fun rd => tolI r (spread r rd)).map D.int)]))
  simp only [C.g_slim_rule_2, C.m_slim_rule_2]
  generalize ((stands (hpL r).length).map fun rd => tolI r (spread r rd)).map D.int = TT at *
  generalize (thU r r.1.length).map D.int = UU at *
  generalize (stands (hpL r).length).map ti = SL at *
  generalize (hpL r).map (dHp r) = HD at *
  generalize C.e_slim_rule_2_1 = E1 at *
  generalize C.b_slim_rule_2_2 = B2 at *
  generalize dRuleF r = DR at *
  simp [e_fnP, hd, lh, so, zs, l, c, zh, zu, zt, nlt, shAt, chkO_ws, szOk_of, -d_lenL]
end
end H

set_option Elab.async false
set_option linter.all false
set_option maxRecDepth 100000
namespace H
open PySem PySem.Spec PyProof.Rows L2 Y
section
variable {ns : List RuleT} {most m k j : Nat} {S : List Nat} {x y : List Int}
theorem mem_restsI : x ∈ restsI ns ↔ IsSt ns.length x ∧ wrongI ns x = [] := by
  unfold restsI
  rw [List.mem_filter, mem_stands, List.isEmpty_iff]
end
end H

set_option Elab.async false
set_option linter.all false
set_option maxRecDepth 100000
namespace H
open PySem PySem.Spec PyProof.Rows L2 Y
section
variable {ns : List RuleT} {most m k j : Nat} {S : List Nat} {x y : List Int}
theorem tol_map {es : List Int} {g : List Int → Int} {rd : List Int} (h : IsSt es.length rd) : tolI (es, (stands es.length).map g) rd = g rd := by
  have q := stands_at h
  unfold tolI
  show ((stands es.length).map g).getD (placeI rd).toNat 0 = _
  rw [List.getD_eq_getElem?_getD, List.getElem?_map, q]
  rfl
theorem flpN_len : (flpN ns k).length = ns.length := by unfold flpN; rw [List.length_map, List.length_range]
theorem flpN_at (hj : j < ns.length) : (flpN ns k).getD j ([], []) = flpQ ns k j := by
  unfold flpN
  rw [getD_mapL (by rw [List.length_range]; exact hj), List.getElem_range]
theorem flp_ought (ok : NetOk ns most) (hk : k < ns.length) (hj : j < ns.length) (hx : IsSt ns.length x) : oughtI (flpN ns k) x j = if j = k then 1 - oughtI ns (flipI x k) j else oughtI ns (flipI x k) j := by
  have rj := net_rule ok hj
  have rs := rd_st (r := ns.getD j ([], [])) hx
  rw [ought_tolR, ought_tolR, flpN_at hj]
  have e0 : rdE (flpQ ns k j) x = rdE (ns.getD j ([], [])) x := rfl
  rw [e0]
  have e1 : tolI (flpQ ns k j) (rdE (ns.getD j ([], [])) x) = flV (ns.getD j ([], [])) k (decide (j = k)) (rdE (ns.getD j ([], [])) x) := tol_map rs
  rw [e1]
  have e2 : flS (ns.getD j ([], [])) k (rdE (ns.getD j ([], [])) x) = rdE (ns.getD j ([], [])) (flipI x k) := by
    unfold flS
    by_cases c : (k : Int) ∈ (ns.getD j ([], [])).1
    · rw [if_pos c]
      have hi := List.idxOf_lt_length_of_mem c
      have := rd_flip rj hx hi
      have ek : (ns.getD j ([], [])).1.getD ((ns.getD j ([], [])).1.idxOf (k : Int)) 0 = (k : Int) := by rw [getD_lt hi]; exact List.getElem_idxOf hi
      rw [ek] at this
      exact this.symm
    · rw [if_neg c]
      exact (rd_flip_off rj hx hk c).symm
  unfold flV
  rw [e2]
  by_cases c : j = k
  · rw [if_pos (decide_eq_true c), if_pos c]
  · rw [if_neg (by rw [decide_eq_false c]; simp), if_neg c]
theorem flp_net (ok : NetOk ns most) : NetOk (flpN ns k) most := by
  refine ⟨by rw [flpN_len]; exact ok.pos, by rw [flpN_len]; exact ok.le, fun r hr => ?_⟩
  rw [flpN_len]
  obtain ⟨j, hj, rfl⟩ := List.mem_map.mp hr
  have rj := net_rule ok (List.mem_range.mp hj)
  refine ⟨rj.len, rj.sub, by show ((stands _).map _).length = _; rw [List.length_map, stands_len]; rfl, fun v hv => ?_⟩
  obtain ⟨rd, hrd, rfl⟩ := List.mem_map.mp hv
  have := tol_bit (st := flS (ns.getD j ([], [])) k rd) rj.lk
  unfold flV
  split <;> omega
end
end H

set_option Elab.async false
set_option linter.all false
set_option maxRecDepth 100000
namespace HF
open PySem PySem.Spec PyProof.Rows L2 Y
abbrev ti (xs : List Int) : D := .tup (xs.map D.int)
abbrev dRule (r : List Int × List Int) : D := .tup [.ftu (r.1.map D.int), ti r.2]
@[simp] theorem d_itF {ds : List D} : itD (.ftu ds) = .ok ds := id rfl
@[simp] theorem d_lenF {ds : List D} : lenD [.ftu ds] = .ok (.int ds.length) := id rfl
abbrev dNet (ns : List (List Int × List Int)) : D := .tup (ns.map dRule)
@[simp] theorem is_whole_int {i : Int} : C.g_is_whole [.int i] = .ok (.fr (.bl true)) := by
  simp [C.g_is_whole, C.m_is_whole, e_fnP, noDit, Y.isInt, Y.isBl]
@[simp] theorem is_upto_int {i m : Int} : C.g_is_upto [.int i, .int m] = .ok (.fr (.bl (decide (0 ≤ i ∧ i < m)))) := by
  simp [C.g_is_upto, C.m_is_upto, e_fnP, is_whole_int]
  by_cases h : 0 ≤ i <;> simp [h]
def placeI (xs : List Int) : Int := xs.foldl (fun p b => 2 * p + b) 0
theorem place_of_lst {xs : List Int} (hx : xs.length ≤ 16777216) : C.g_place_of [.lst (xs.map D.int)] = .ok (.vl (.int (placeI xs))) := by
  have h := for_run (tm := tmName 2) (body := C.b_place_of_1) (vs := [2]) (ws := []) D.int (fun p : Int => [some (D.lst (xs.map D.int)), some (.int p), none]) (fun p x => 2 * p + x) (fun _ => True) xs 0 trivial (fun p x _ hx => by
    simp [turnF, C.b_place_of_1, mulOk_l])
  simp [C.g_place_of, C.m_place_of, e_fnP, szOk_of hx, h.1, placeI]
/-- all bits -/
theorem are_bits_ti {xs : List Int} {m : Int} (hx : xs.length ≤ 16777216) (hb : ∀ x ∈ xs, 0 ≤ x ∧ x < 2) (hm : (xs.length : Int) = m) : C.g_are_bits [ti xs, .int m] = .ok (.fr (.bl true)) := by
  have h := comp_map (tm := tmName 2) (t := cYes) (e := C.e_are_bits_1) (vs := [2]) (ws := []) (ρ := [some (ti xs), some (.int m), none]) D.int (fun x => D.bl (decide (0 ≤ x) && decide (x < 2))) xs (fun x _ => by
    simp [turnC, C.e_are_bits_1])
  have h2 : xs.map (fun x => D.bl (decide (0 ≤ x) && decide (x < 2))) = (xs.map fun x => decide (0 ≤ x) && decide (x < 2)).map D.bl := by simp
  simp [C.g_are_bits, C.m_are_bits, e_fnP, noDit, Y.isTup, szOk_of hx, h, hm]
  rw [h2, d_all]
  simp
  intro x hx
  exact hb x hx
theorem is_stand_ok {n : List D} {xs : List Int} (hx : xs.length ≤ 16777216) (hb : ∀ x ∈ xs, 0 ≤ x ∧ x < 2) (hl : xs.length = n.length) : C.g_is_stand [.tup n, ti xs] = .ok (.fr (.bl true)) := by
  have := are_bits_ti (m := n.length) hx hb (by omega)
  simp [C.g_is_stand, C.m_is_stand, e_fnP, this]
theorem look_at_stand_ok {n : List D} {xs : List Int} (hx : xs.length ≤ 16777216) (hb : ∀ x ∈ xs, 0 ≤ x ∧ x < 2) (hl : xs.length = n.length) : C.g_look_at_stand [.tup n, ti xs] = .ok (.fr .non) := by
  simp [C.g_look_at_stand, C.m_look_at_stand, e_fnP, is_stand_ok hx hb hl]
end HF

set_option Elab.async false
set_option linter.all false
set_option maxRecDepth 100000
namespace HF
open PySem PySem.Spec PyProof.Rows L2 Y
theorem atI_nat' {α : Type} {xs : List α} {k : Nat} (h : k < xs.length) : atI xs (k : Int) = some xs[k] := atI_of (j := k) rfl (List.getElem?_eq_getElem h)
theorem atI_map {α β : Type} {f : α → β} {xs : List α} {i : Int} : atI (xs.map f) i = (atI xs i).map f := by
  unfold atI
  rw [List.length_map]
  cases ixN xs.length i with
  | none => rfl
  | some j => simp
theorem atI_int {xs : List Int} {i : Int} (h0 : 0 ≤ i) (h : i < xs.length) : atI xs i = some (xs.getD i.toNat 0) := by
  rw [atI_lt h0 h, List.getD_eq_getElem?_getD, List.getElem?_eq_getElem (by omega)]
  rfl
theorem atI_mapI {xs : List Int} {i : Int} (h0 : 0 ≤ i) (h : i < xs.length) : atI (xs.map D.int) i = some (.int (xs.getD i.toNat 0)) := by rw [atI_map, atI_int h0 h]; rfl
theorem place_go : ∀ {xs : List Int} {p : Int}, 0 ≤ p → (∀ x ∈ xs, 0 ≤ x ∧ x < 2) → 0 ≤ xs.foldl (fun p b => 2 * p + b) p ∧ xs.foldl (fun p b => 2 * p + b) p < (p + 1) * 2 ^ xs.length
  | [], p, hp, _ => by simp; omega
  | x :: xs, p, hp, h => by
    have hx := h x (by simp)
    have ih := place_go (xs := xs) (p := 2 * p + x) (by omega) fun y hy => h y (by simp [hy])
    rw [List.foldl_cons, List.length_cons, Int.pow_succ]
    refine ⟨ih.1, Int.lt_of_lt_of_le ih.2 ?_⟩
    have e : (p + 1) * (2 ^ xs.length * 2) = (2 * p + 2) * 2 ^ xs.length := by
      rw [Int.mul_comm (2 ^ xs.length) 2, ← Int.mul_assoc]
      congr 1
      omega
    rw [e]
    exact Int.mul_le_mul_of_nonneg_right (by omega) (Int.pow_nonneg (by omega))
theorem placeI_lt {xs : List Int} (h : ∀ x ∈ xs, 0 ≤ x ∧ x < 2) : 0 ≤ placeI xs ∧ placeI xs < 2 ^ xs.length := by
  have := place_go (xs := xs) (p := 0) (by omega) h
  simpa [placeI] using this
abbrev RuleT := List Int × List Int
structure GoodNet (ns : List RuleT) : Prop where
  sz : ns.length ≤ 100
  ear : ∀ r ∈ ns, r.1.length ≤ 100 ∧ (∀ e ∈ r.1, 0 ≤ e ∧ e < ns.length) ∧ r.2.length = 2 ^ r.1.length
structure IsSt (m : Nat) (st : List Int) : Prop where
  len : st.length = m
  bit : ∀ x ∈ st, 0 ≤ x ∧ x < 2
def tellI (r : RuleT) (st : List Int) : Int := r.2.getD (placeI (r.1.map fun e => st.getD e.toNat 0)).toNat 0
def oughtI (ns : List RuleT) (st : List Int) (k : Nat) : Int := tellI (ns.getD k ([], [])) st
theorem getD_bit {st : List Int} (h : ∀ x ∈ st, 0 ≤ x ∧ x < 2) (k : Nat) : 0 ≤ st.getD k 0 ∧ st.getD k 0 < 2 := by
  rw [List.getD_eq_getElem?_getD]
  cases e : st[k]? with
  | none => simp
  | some x => exact h x (List.mem_of_getElem? e)
theorem IsSt.get {m : Nat} {st : List Int} (h : IsSt m st) (k : Nat) : 0 ≤ st.getD k 0 ∧ st.getD k 0 < 2 := getD_bit h.bit k
theorem read_lt {m : Nat} {st : List Int} (h : IsSt m st) (es : List Int) : 0 ≤ placeI (es.map fun e => st.getD e.toNat 0) ∧ placeI (es.map fun e => st.getD e.toNat 0) < 2 ^ es.length := by
  have := placeI_lt (xs := es.map fun e => st.getD e.toNat 0) fun x hx => by
    obtain ⟨e, _, rfl⟩ := List.mem_map.mp hx
    exact h.get _
  rwa [List.length_map] at this
theorem net_at {ns : List RuleT} {k : Nat} (h : k < ns.length) : atI (ns.map dRule) (k : Int) = some (dRule (ns.getD k ([], []))) := by
  rw [atI_map, atI_nat' h, List.getD_eq_getElem?_getD, List.getElem?_eq_getElem h]
  rfl
theorem GoodNet.at {ns : List RuleT} (g : GoodNet ns) {k : Nat} (h : k < ns.length) : (ns.getD k ([], [])).1.length ≤ 100 ∧ (∀ e ∈ (ns.getD k ([], [])).1, 0 ≤ e ∧ e < ns.length) ∧ (ns.getD k ([], [])).2.length = 2 ^ (ns.getD k ([], [])).1.length := by
  rw [List.getD_eq_getElem?_getD, List.getElem?_eq_getElem h]
  exact g.ear _ (List.getElem_mem h)
theorem ought_ok {ns : List RuleT} {st : List Int} {k : Nat} (g : GoodNet ns) (hs : IsSt ns.length st) (hk : k < ns.length) : C.g_ought [dNet ns, ti st, .int k] = .ok (.vl (.int (oughtI ns st k))) := by
  obtain ⟨h1, h2, h3⟩ := g.at hk
  have h := comp_map (tm := tmName 5) (t := cYes) (e := C.e_ought_1) (vs := [5]) (ws := []) (ρ := [some (dNet ns), some (ti st), some (.int k), some (.ftu ((ns.getD k ([], [])).1.map D.int)), some (ti (ns.getD k ([], [])).2), none]) D.int (fun e => D.int (st.getD e.toNat 0)) (ns.getD k ([], [])).1 (fun e he => by
    have := h2 e he
    simp [turnC, C.e_ought_1, atI_mapI this.1 (by rw [hs.len]; exact this.2)])
  have h4 := place_of_lst (xs := (ns.getD k ([], [])).1.map fun e => st.getD e.toNat 0) (by rw [List.length_map]; omega)
  rw [List.map_map] at h4
  have h5 := read_lt hs (ns.getD k ([], [])).1
  have h6 := atI_mapI (xs := (ns.getD k ([], [])).2) h5.1 (by rw [h3]; exact_mod_cast h5.2)
  simp only [Function.comp_def] at h4
  simp [C.g_ought, C.m_ought, e_fnP, net_at hk, szOk_of (show (ns.getD k ([], [])).1.length ≤ 16777216 by omega), h, h4, h6, -List.getD_eq_getElem?_getD]
  rfl
/-- the switches that are not as their rules tell -/
def wrongI (ns : List RuleT) (st : List Int) : List Nat := (List.range ns.length).filter fun k => !decide (oughtI ns st k = st.getD k 0)
abbrev ln' (xs : List Nat) : D := .lst (xs.map fun k => D.int (k : Nat))
theorem wrong_ones_ok {ns : List RuleT} {st : List Int} (g : GoodNet ns) (hs : IsSt ns.length st) : C.g_wrong_ones [dNet ns, ti st] = .ok (.fr (ln' (wrongI ns st))) := by
  have hz := g.sz
  have h : cCompL (tmName 2) C.t_wrong_ones_1 C.e_wrong_ones_1 [2] [] ((List.range ns.length).map fun k : Nat => D.int (k : Nat)) [some (dNet ns), some (ti st), none] = .ok ((wrongI ns st).map fun k => D.int (k : Nat), [some (dNet ns), some (ti st), none]) :=
    comp_filter (fun k : Nat => D.int (k : Nat)) (fun k => !decide (oughtI ns st k = st.getD k 0)) (fun k => D.int (k : Nat)) (List.range ns.length) (fun k hk => by
      have hk := List.mem_range.mp hk
      have a := atI_mapI (xs := st) (i := k) (by omega) (by rw [hs.len]; omega)
      simp only [turnC, C.t_wrong_ones_1, C.e_wrong_ones_1, Int.toNat_natCast] at a ⊢
      simp [ought_ok g hs hk, a, -List.getD_eq_getElem?_getD]
      by_cases c : oughtI ns st k = st.getD k 0 <;> simp [c, -List.getD_eq_getElem?_getD])
  have l := look_at_stand_ok (n := ns.map dRule) (xs := st) (by rw [hs.len]; omega) hs.bit (by rw [hs.len, List.length_map])
  have hr : rngOk ns.length = true := rngOk_of (by omega) (by omega)
  have hz2 : szOk ns.length = true := szOk_of (by omega)
  simp [C.g_wrong_ones, C.m_wrong_ones, e_fnP, l, hr, hz2, h]
def stands : Nat → List (List Int)
  | 0 => [[]]
  | m + 1 => (stands m).map (0 :: ·) ++ (stands m).map (1 :: ·)
theorem stands_len : ∀ m, (stands m).length = 2 ^ m
  | 0 => rfl
  | m + 1 => by simp [stands, stands_len m, Nat.pow_succ]; omega
theorem stands_st : ∀ {m : Nat} {st : List Int}, st ∈ stands m → IsSt m st
  | 0, st, h => by simp [stands] at h; subst h; exact ⟨rfl, by simp⟩
  | m + 1, st, h => by
    simp only [stands, List.mem_append, List.mem_map] at h
    rcases h with ⟨s, h, rfl⟩ | ⟨s, h, rfl⟩
    · exact ⟨by simp [(stands_st h).len], by simpa using (stands_st h).bit⟩
    · exact ⟨by simp [(stands_st h).len], by simpa using (stands_st h).bit⟩
abbrev lti (xs : List (List Int)) : D := .lst (xs.map ti)
theorem stands_of_ok {m : Nat} (hm : m ≤ 20) : C.g_stands_of [.int m] = .ok (.vl (lti (stands m))) := by
  have hp : ∀ k, k ≤ 20 → 2 ^ k ≤ 1048576 := fun k hk => Nat.pow_le_pow_right (by omega) hk
  have h := for_rng (tm := tmName 2) (body := C.b_stands_of_1) (vs := [2]) (ws := []) (n := m) (fun k : Nat => D.int (k : Nat)) (fun k => [some (.int m), some (lti (stands k)), none, none]) (fun i hi => by
    have hz := hp i (by omega)
    have hz2 := hp (i + 1) (by omega)
    have c1 : cCompL (tmName 3) cYes C.e_stands_of_1 [3] [] ((stands i).map ti) [some (.int m), some (lti (stands i)), some (.int (i : Nat)), none] = .ok (((stands i).map fun s => ti (0 :: s)), [some (.int m), some (lti (stands i)), some (.int (i : Nat)), none]) :=
      comp_map ti (fun s => ti (0 :: s)) (stands i) (fun s hs => by
        have := (stands_st hs).len
        simp [turnC, C.e_stands_of_1, szOk_of (show 1 + s.length ≤ 16777216 by omega)])
    have c2 : cCompL (tmName 3) cYes C.e_stands_of_2 [3] [] ((stands i).map ti) [some (.int m), some (lti (stands i)), some (.int (i : Nat)), none] = .ok (((stands i).map fun s => ti (1 :: s)), [some (.int m), some (lti (stands i)), some (.int (i : Nat)), none]) :=
      comp_map ti (fun s => ti (1 :: s)) (stands i) (fun s hs => by
        have := (stands_st hs).len
        simp [turnC, C.e_stands_of_2, szOk_of (show 1 + s.length ≤ 16777216 by omega)])
    have hl := stands_len i
    have z1 : szOk (stands i).length = true := szOk_of (by omega)
    have z2 : szOk ((stands i).length + (stands i).length) = true := szOk_of (by rw [Nat.pow_succ] at hz2; omega)
    refine ⟨by simp, ?_⟩
    simp only [turnF, C.b_stands_of_1]
    simp [c1, c2, z1, z2, stands, Function.comp_def])
  have hr : rngOk m = true := rngOk_of (by omega) (by omega)
  have hz2 : szOk m = true := szOk_of (by omega)
  have h : forL (tmName 2) C.b_stands_of_1 [2] [] ((List.range m).map fun k : Nat => D.int (k : Nat)) [some (.int m), some (.lst [.tup []]), none, none] = _ := h
  simp [C.g_stands_of, C.m_stands_of, e_fnP, hr, hz2, h]
def restsI (ns : List RuleT) : List (List Int) := (stands ns.length).filter fun st => (wrongI ns st).isEmpty
theorem fit_ln {n : Nat} {xs : List Nat} : Fit (n + 1) (ln' xs) := fun d h => by
  obtain ⟨x, _, rfl⟩ := List.mem_map.mp h
  exact fit_int
theorem fit_nil {n : Nat} : Fit (n + 1) (.lst []) := by
  unfold Fit
  intro d h
  cases h
theorem eqPs_nil {xs : List D} : eqPs xs [] = xs.isEmpty := by cases xs <;> rfl
theorem rests_of_ok {ns : List RuleT} (g : GoodNet ns) (hl : ns.length ≤ 20) : C.g_rests_of [dNet ns] = .ok (.fr (lti (restsI ns))) := by
  have h : cCompL (tmName 1) C.t_rests_of_1 C.e_rests_of_1 [1] [] ((stands ns.length).map ti) [some (dNet ns), none] = .ok ((restsI ns).map ti, [some (dNet ns), none]) :=
    comp_filter ti (fun st => (wrongI ns st).isEmpty) ti (stands ns.length) (fun st hs => by
      have e : eqD (ln' (wrongI ns st)) (.lst []) = .ok (.bl (wrongI ns st).isEmpty) := by
        rw [eqD_of (n := 2) fit_ln fit_nil, eqP_lst, eqPs_nil]; simp
      simp only [turnC, C.t_rests_of_1, C.e_rests_of_1]
      simp [wrong_ones_ok g (stands_st hs), e]
      split <;> rfl)
  have hz : szOk (stands ns.length).length = true := szOk_of (by
    rw [stands_len]
    exact Nat.le_trans (Nat.pow_le_pow_right (by omega) hl) (by omega))
  simp [C.g_rests_of, C.m_rests_of, e_fnP, stands_of_ok hl, h, hz]
end HF

set_option Elab.async false
set_option linter.all false
set_option maxRecDepth 100000
set_option exponentiation.threshold 300
namespace HF
open PySem PySem.Spec PyProof.Rows L2 Y
def cellI (ns : List Int) (k : Nat) : Int := if k < ns.length then ns.getD k 0 else 6151 * k + 29
def isOk (r : R Hd) (d : D) : Prop := r = .ok (.fr d) ∨ r = .ok (.vl d)
theorem cell_ok {ns : List Int} {k : Nat} : isOk (C.g__law_cell [.arg ns, .int k]) (.int (cellI ns k)) := by
  unfold cellI
  by_cases h : k < ns.length
  · right
    have a := atI_int (xs := ns) (i := k) (by omega) (by omega)
    simp only [Int.toNat_natCast] at a
    simp [C.g__law_cell, C.m__law_cell, e_fnP, h, a, -List.getD_eq_getElem?_getD]
  · left
    simp [C.g__law_cell, C.m__law_cell, e_fnP, h, mulOk_l]
/-- numbers that the machine bears as factors -/
def Big (n : Nat) (z : Int) : Prop := z.natAbs < 2 ^ n
theorem Big.mul {a b : Int} {n m : Nat} (h : Big n a) (h2 : Big m b) (hn : n < 67108000) (hm : m < 67108000) : mulOk a b = true := by
  have l : ∀ {z : Int} {n : Nat}, Big n z → n < 67108000 → z.natAbs.log2 < 67108856 := fun {z n} h hn => by
    by_cases e : z.natAbs = 0
    · rw [e]; simp
    · exact Nat.lt_of_lt_of_le ((Nat.log2_lt e).mpr h) (by omega)
  have e : (2 : Nat) ^ 26 - 8 = 67108856 := by decide
  unfold mulOk
  rw [e, decide_eq_true (p := a.natAbs.log2 < 67108856 ∧ b.natAbs.log2 < 67108856) ⟨l h hn, l h2 hm⟩]
  simp
theorem Big.add {a b : Int} {n : Nat} (h : Big n a) (h2 : Big n b) : Big (n + 1) (a + b) := by
  unfold Big at *
  rw [Nat.pow_succ]
  have := Int.natAbs_add_le a b
  omega
theorem Big.times {a b : Int} {n m : Nat} (h : Big n a) (h2 : Big m b) : Big (n + m) (a * b) := by
  unfold Big at *
  rw [Int.natAbs_mul, Nat.pow_add]
  exact Nat.mul_lt_mul'' h h2
theorem Big.up {a : Int} {n m : Nat} (h : Big n a) (hm : n ≤ m) : Big m a := Nat.lt_of_lt_of_le h (Nat.pow_le_pow_right (by omega) hm)
theorem big64 {a : Int} (h : a.natAbs < 18446744073709551616) : Big 64 a := h
/-- a script's numbers are not too great -/
theorem bits_big {z : Int} (h : Builtin.Int.intBits z ≤ 1048576) : Big 1048576 z := by
  unfold Builtin.Int.intBits at h
  unfold Big
  split at h
  · rename_i e
    have : z.natAbs = 0 := by simpa using e
    rw [this]
    exact Nat.pow_pos (by omega)
  · have := Nat.lt_log2_self (n := z.natAbs)
    exact Nat.lt_of_lt_of_le this (Nat.pow_le_pow_right (by omega) h)
theorem cell_big {ns : List Int} {k : Nat} (hb : ∀ z ∈ ns, Builtin.Int.intBits z ≤ 1048576) (hk : k < 1000000) : Big 1048576 (cellI ns k) := by
  unfold cellI
  split
  · rename_i h
    rw [List.getD_eq_getElem?_getD, List.getElem?_eq_getElem h]
    exact bits_big (hb _ (List.getElem_mem h))
  · exact (big64 (by omega)).up (by omega)
def mixI (c k : Int) : Int :=
  let n := (c + 1) * 40692 + 104729 * k
  let m := n * n % 2147483399 + k
  m * (m + 31) % 2147483563
theorem mix_ok {c : Int} {k : Nat} (hc : Big 1048576 c) (hk : k < 1000000) : C.g__law_mix [.int c, .int k] = .ok (.fr (.int (mixI c k))) := by
  have b1 : Big 1048700 ((c + 1) * 40692 + 104729 * k) := by
    have h1 : Big 1048577 (c + 1) := Big.add hc ((big64 (a := 1) (by omega)).up (by omega))
    have h2 : Big (1048577 + 64) ((c + 1) * 40692) := h1.times (big64 (by omega))
    have h3 : Big 64 (104729 * (k : Int)) := big64 (by omega)
    exact (h2.add (h3.up (by omega))).up (by omega)
  have b2 := Big.mul b1 b1 (by omega) (by omega)
  have p : 0 ≤ ((c + 1) * 40692 + 104729 * (k : Int)) * ((c + 1) * 40692 + 104729 * k) % 2147483399 ∧ ((c + 1) * 40692 + 104729 * (k : Int)) * ((c + 1) * 40692 + 104729 * k) % 2147483399 < 2147483399 := ⟨Int.emod_nonneg _ (by omega), Int.emod_lt_of_pos _ (by omega)⟩
  have b3 : mulOk (((c + 1) * 40692 + 104729 * (k : Int)) * ((c + 1) * 40692 + 104729 * k) % 2147483399 + k) (((c + 1) * 40692 + 104729 * (k : Int)) * ((c + 1) * 40692 + 104729 * k) % 2147483399 + k + 31) = true := mulOk_l (by omega)
  have b4 : mulOk (c + 1) 40692 = true := mulOk_r (by decide)
  have b5 : mulOk 104729 k = true := mulOk_l (by decide)
  simp [C.g__law_mix, C.m__law_mix, e_fnP, b2, b3, b4, b5, mixI]
def boxN (c : Int) (j : Nat) : Int := (List.range j).foldl (fun p j => p * 2147483647 + mixI c (j : Nat)) 0
theorem boxN_succ {c : Int} {j : Nat} : boxN c (j + 1) = boxN c j * 2147483647 + mixI c j := by
  unfold boxN
  rw [List.range_succ, List.foldl_append]
  rfl
theorem box_ok {ns : List Int} {k : Nat} (hb : ∀ z ∈ ns, Builtin.Int.intBits z ≤ 1048576) (hk : k < 1000) : ∃ b : Int, C.g__law_box [.arg ns, .int k] = .ok (.fr (.lst [.int b])) := by
  have hc := cell_big (ns := ns) (k := k) hb (by omega)
  have h : forL (tmName 4) C.b__law_box_1 [4] [] ((List.range 24).map fun j : Nat => D.int (j : Nat)) [some (.arg ns), some (.int k), some (.int (cellI ns k)), some (.int 0), none] = .ok (.nx, [some (.arg ns), some (.int k), some (.int (cellI ns k)), some (.int (boxN (cellI ns k) 24)), none]) :=
    for_rng (fun j : Nat => D.int (j : Nat)) (fun j => [some (.arg ns), some (.int k), some (.int (cellI ns k)), some (.int (boxN (cellI ns k) j)), none]) (fun j hj => by
      refine ⟨by simp, ?_⟩
      have m := mix_ok (k := j) hc (by omega)
      have b : ∀ p : Int, mulOk p 2147483647 = true := fun p => mulOk_r (by decide)
      simp only [turnF, C.b__law_box_1]
      simp [m, b, boxN_succ])
  have hr : rngOk 24 = true := by decide
  have hz : szOk 24 = true := by decide
  have r24 : rng1D [.int 24] = .ok ((List.range 24).map fun j : Nat => D.int (j : Nat)) := by rw [d_rng1, if_pos hr]; rfl
  have z24 : szOk ((List.range 24).map fun j : Nat => D.int (j : Nat)).length = true := by simp [hz]
  by_cases e : cellI ns k % 2 = 0
  · refine ⟨cellI ns k / 2, ?_⟩
    rcases cell_ok (ns := ns) (k := k) with c | c <;> simp [C.g__law_box, C.m__law_box, e_fnP, c, e, smallPos_of]
  · refine ⟨boxN (cellI ns k) 24, ?_⟩
    rcases cell_ok (ns := ns) (k := k) with c | c <;> simp only [C.g__law_box, C.m__law_box] <;> generalize C.b__law_box_1 = B at h ⊢ <;> generalize (List.range 24).map (fun j : Nat => D.int (j : Nat)) = L24 at h r24 z24 <;> simp [e_fnP, c, e, r24, z24, h, -d_rng1]
theorem take_ok {n m : Int} (h0 : 0 < m) (h1 : m < 1073741824) : C.g__law_take [.lst [.int n], .int m] = .ok (.vl (.int (n % m)), [some (.lst [.int (n / m)]), none]) := by
  have a : atI [D.int n] 0 = some (.int n) := rfl
  have b : ixN 1 0 = some 0 := rfl
  simp [C.g__law_take, C.m__law_take, e_fnD, smallPos_of h0 h1, a, b]
theorem shl1 {k : Nat} (h : k ≤ 1000000) : shlD (.int 1) (.int (k : Nat)) = .ok (.int ((2 ^ k : Nat) : Int)) := by
  rw [d_shl, if_pos (shOk_of (by omega) (by omega) (by decide))]
  simp
theorem cut_hi {ds : List D} {k : Nat} : Y.cutD ds none (some (k : Int)) = ds.take k := by
  unfold Y.cutD
  rw [HT.sIx_none, HT.sIx_nat]
  simp
/-- a rule for m switches -/
structure RuleOk (m : Nat) (r : RuleT) : Prop where
  len : r.1.length ≤ 4
  sub : ∃ es : List Nat, r.1 = es.map (fun j : Nat => (j : Int)) ∧ es.Sublist (List.range m)
  tab : r.2.length = 2 ^ r.1.length
  bit : ∀ x ∈ r.2, 0 ≤ x ∧ x < 2
theorem bit1 {x : Int} : 0 ≤ Builtin.bitAnd x 1 ∧ Builtin.bitAnd x 1 < 2 := by
  have := Bits.bit_at (x := x) 0
  simp at this
  rw [this]
  omega
end HF

set_option Elab.async false
set_option linter.all false
set_option maxRecDepth 100000
namespace HF
open PySem PySem.Spec PyProof.Rows L2 Y
structure NetOk (ns : List RuleT) (most : Nat) : Prop where
  pos : 1 ≤ ns.length
  le : ns.length ≤ most
  rule : ∀ r ∈ ns, RuleOk ns.length r
theorem NetOk.good {ns : List RuleT} {most : Nat} (h : NetOk ns most) (hm : most ≤ 100) : GoodNet ns where
  sz := Nat.le_trans h.le hm
  ear := fun r hr => by
    have k := h.rule r hr
    refine ⟨by have := k.len; omega, fun e he => ?_, k.tab⟩
    obtain ⟨es, e1, sub⟩ := k.sub
    rw [e1] at he
    obtain ⟨j, hj, rfl⟩ := List.mem_map.mp he
    have := List.mem_range.mp (sub.subset hj)
    omega
theorem fit_lti {n : Nat} {xs : List (List Int)} : Fit (n + 2) (lti xs) := fun d h => by
  obtain ⟨x, _, rfl⟩ := List.mem_map.mp h
  exact fit_tupI
end HF

set_option Elab.async false
set_option linter.all false
set_option maxRecDepth 100000
namespace HF
open PySem PySem.Spec PyProof.Rows L2 Y
theorem cut_to {ds : List D} {k : Nat} : Y.cutD ds none (some (k : Int)) = ds.take k := cut_hi
theorem cut_from {ds : List D} {k : Nat} : Y.cutD ds (some (k : Int)) none = ds.drop k := by
  unfold Y.cutD
  rw [HT.sIx_none, HT.sIx_nat]
  by_cases h : k ≤ ds.length
  · rw [Nat.min_eq_left h, List.take_of_length_le (by simp)]
  · rw [Nat.min_eq_right (by omega), List.drop_of_length_le (Nat.le_refl _), List.drop_of_length_le (by omega)]
    simp
def withI (st : List Int) (k : Nat) (b : Int) : List Int := st.take k ++ b :: st.drop (k + 1)
theorem look_at_switch_ok {n : List D} {k : Nat} (hk : k < n.length) : C.g_look_at_switch [.tup n, .int k] = .ok (.fr .non) := by
  simp only [C.g_look_at_switch, C.m_look_at_switch]
  simp [e_fnP, hk]
end HF

set_option Elab.async false
set_option linter.all false
set_option maxRecDepth 100000
namespace HF
open PySem PySem.Spec PyProof.Rows L2 Y
abbrev tn (b : List Nat) : D := .tup (b.map fun k : Nat => D.int (k : Nat))
theorem ixN_nat {n k : Nat} (h : k < n) : ixN n (k : Int) = some k := by
  unfold ixN
  rw [if_pos (by omega), if_pos (by omega)]
  rfl
def TabBits (ns : List RuleT) : Prop := ∀ r ∈ ns, ∀ x ∈ r.2, 0 ≤ x ∧ x < 2
theorem NetOk.tab {ns : List RuleT} {most : Nat} (h : NetOk ns most) : TabBits ns := fun r hr => (h.rule r hr).bit
end HF

set_option Elab.async false
set_option linter.all false
set_option maxRecDepth 100000
namespace HF
open PySem PySem.Spec PyProof.Rows L2 Y
end HF

set_option Elab.async false
set_option linter.all false
set_option maxRecDepth 100000
namespace HF
open PySem PySem.Spec PyProof.Rows L2 Y
theorem pairsD_map {α β : Type} {f : α → D} {g : β → D} : ∀ {xs : List α} {ys : List β}, pairsD (xs.map f) (ys.map g) = (xs.zip ys).map fun p => .tup [f p.1, g p.2]
  | [], _ => by simp [pairsD]
  | _ :: _, [] => by simp [pairsD]
  | x :: xs, y :: ys => by simp [pairsD, pairsD_map (xs := xs) (ys := ys)]
structure OrdOk (m : Nat) (o : List (List Nat)) : Prop where
  ne : ∀ b ∈ o, b ≠ []
  sub : ∀ b ∈ o, b.Sublist (List.range m)
  perm : o.flatten.Perm (List.range m)
theorem OrdOk.len {m : Nat} {o : List (List Nat)} (h : OrdOk m o) : o.length ≤ m := by
  have : ∀ o : List (List Nat), (∀ b ∈ o, b ≠ []) → o.length ≤ o.flatten.length := fun o => by
    induction o with
    | nil => simp
    | cons b o ih =>
      intro h
      have h1 := h b (by simp)
      have h2 := ih fun c hc => h c (by simp [hc])
      have : 0 < b.length := List.length_pos_iff.mpr h1
      rw [List.flatten_cons, List.length_append, List.length_cons]
      omega
  have h2 := this o h.ne
  rw [h.perm.length_eq, List.length_range] at h2
  exact h2
theorem OrdOk.apart {m : Nat} {o : List (List Nat)} (h : OrdOk m o) : o.Pairwise (fun b c => ∀ k ∈ b, k ∉ c) := by
  have : o.flatten.Nodup := h.perm.nodup_iff.mpr List.nodup_range
  have := (List.pairwise_flatten.mp this).2
  exact this.imp fun h k hk z => h k hk k z rfl
end HF

set_option Elab.async false
set_option linter.all false
set_option maxRecDepth 100000
namespace HF
open PySem PySem.Spec PyProof.Rows L2 Y
@[simp] theorem neD_bl {a b : Bool} : neD (.bl a) (.bl b) = .ok (.bl (a != b)) := by
  rw [neD_of (n := 0) fit_bl fit_bl, eqP_bl]
  cases a <;> cases b <;> rfl
theorem OrdOk.turn {m : Nat} {o : List (List Nat)} (h : OrdOk m o) (w : Nat) : OrdOk m (o.drop w ++ o.take w) := by
  have p : (o.drop w ++ o.take w).Perm o := by
    have := List.perm_append_comm (l₁ := o.drop w) (l₂ := o.take w)
    rwa [List.take_append_drop] at this
  exact ⟨fun b hb => h.ne b (p.mem_iff.mp hb), fun b hb => h.sub b (p.mem_iff.mp hb), p.flatten.trans h.perm⟩
end HF

set_option Elab.async false
set_option linter.all false
set_option maxRecDepth 100000
namespace HF
open PySem PySem.Spec PyProof.Rows L2 Y
def blk (ks : List Int) (m j : Nat) : List Nat := (List.range m).filter fun k => decide (ks.getD k 0 = (j : Nat))
end HF

set_option Elab.async false
set_option linter.all false
set_option maxRecDepth 100000
set_option exponentiation.threshold 300
namespace HF
open PySem PySem.Spec PyProof.Rows L2 Y
abbrev tx (l : List Nat) : Str := ⟨l.toArray⟩
abbrev dt (l : List Nat) : D := .str (tx l)
end HF

set_option Elab.async false
set_option linter.all false
set_option maxRecDepth 100000
set_option exponentiation.threshold 300
namespace HF
open PySem PySem.Spec PyProof.Rows L2 Y
theorem mem_stands : ∀ {m : Nat} {st : List Int}, st ∈ stands m ↔ IsSt m st
  | 0, st => by
    constructor
    · exact stands_st
    · intro h
      have := h.len
      cases st with
      | nil => simp [stands]
      | cons => simp at this
  | m + 1, st => by
    constructor
    · exact stands_st
    · intro h
      cases st with
      | nil => have := h.len; simp at this
      | cons x st =>
        have hx := h.bit x (by simp)
        have hs : IsSt m st := ⟨by have := h.len; simpa using this, fun y hy => h.bit y (by simp [hy])⟩
        have : st ∈ stands m := mem_stands.mpr hs
        have e : x = 0 ∨ x = 1 := by omega
        rcases e with rfl | rfl <;> simp [stands, this]
theorem stands_lt : ∀ m, (stands m).Pairwise fun a b => ltL a b = true
  | 0 => by simp [stands]
  | m + 1 => by
    have ih := stands_lt m
    unfold stands
    rw [List.pairwise_append]
    refine ⟨?_, ?_, ?_⟩
    · rw [List.pairwise_map]; exact ih.imp fun h => by simpa [ltL] using h
    · rw [List.pairwise_map]; exact ih.imp fun h => by simpa [ltL] using h
    · intro a ha b hb
      obtain ⟨x, _, rfl⟩ := List.mem_map.mp ha
      obtain ⟨y, _, rfl⟩ := List.mem_map.mp hb
      simp [ltL]
theorem stands_nodup (m : Nat) : (stands m).Nodup := (stands_lt m).imp fun {a b} h e => by
  subst e
  rw [ltL_asym h] at h
  cases h
end HF

set_option Elab.async false
set_option linter.all false
set_option maxRecDepth 100000
set_option exponentiation.threshold 300
namespace HF
open PySem PySem.Spec PyProof.Rows L2 Y
/-- for over range(n), by what holds at each turn -/
theorem for_inx {tm : GM} {body : SM} {vs ws : List Nat} (F : Nat → D) (I : Nat → Y.Env → Prop) (n : Nat) (ρ : Y.Env) (h0 : I 0 ρ)
    (hs : ∀ i ρ, i < n → I i ρ → ∃ ρ', turnF tm body vs (F i) ρ = .ok (.nx, ρ') ∧ I (i + 1) ρ' ∧ ∀ w ∈ ws, ρ'[w]? = ρ[w]?) : ∃ ρ', forL tm body vs ws ((List.range n).map F) ρ = .ok (.nx, ρ') ∧ I n ρ' := by
  have : ∀ (k i : Nat) (ρ : Y.Env), i + k = n → I i ρ → ∃ ρ', forL tm body vs ws ((List.range' i k).map F) ρ = .ok (.nx, ρ') ∧ I n ρ' := by
    intro k
    induction k with
    | zero => intro i ρ e h; exact ⟨ρ, rfl, by rw [← e]; exact h⟩
    | succ k ih =>
      intro i ρ e h
      obtain ⟨ρ1, e1, h1, w1⟩ := hs i ρ (by omega) h
      obtain ⟨ρ2, e2, h2⟩ := ih (i + 1) ρ1 (by omega) h1
      rw [List.range'_succ, List.map_cons]
      exact ⟨ρ2, for_cons e1 w1 e2, h2⟩
  rw [List.range_eq_range']
  exact this n 0 ρ (by omega) h0
theorem sub_range {es : List Nat} {m : Nat} (h : es.Pairwise (· < ·)) (hm : ∀ x ∈ es, x < m) : es.Sublist (List.range m) := by
  have e : es = (List.range m).filter fun k => decide (k ∈ es) := by
    have hf : ((List.range m).filter fun k => decide (k ∈ es)).Pairwise (· < ·) := List.Pairwise.filter _ List.pairwise_lt_range
    refine List.Perm.eq_of_pairwise (le := fun a b : Nat => a < b) (fun a b _ _ h1 h2 => by omega) h hf ?_
    refine (List.perm_ext_iff_of_nodup (h.imp fun h => by omega) (hf.imp fun h => by omega)).mpr fun k => ?_
    rw [List.mem_filter, List.mem_range, decide_eq_true_eq]
    exact ⟨fun h => ⟨hm k h, h⟩, fun h => h.2⟩
  rw [e]
  exact List.filter_sublist
/-- whole numbers, none twice, sorted: a part of a range -/
theorem sort_sub {E : List Nat} {m : Nat} (hn : E.Nodup) (hm : ∀ x ∈ E, x < m) : ∃ es : List Nat, sortI (E.map fun k : Nat => (k : Int)) = es.map (fun k : Nat => (k : Int)) ∧ es.Sublist (List.range m) ∧ es.length = E.length := by
  have p := sortI_perm (E.map fun k : Nat => (k : Int))
  have pw := sortI_pw (E.map fun k : Nat => (k : Int))
  generalize sortI (E.map fun k : Nat => (k : Int)) = S at p pw
  have nn : ∀ x ∈ S, 0 ≤ x ∧ x < m := fun x hx => by
    obtain ⟨k, hk, rfl⟩ := List.mem_map.mp (p.mem_iff.mp hx)
    have := hm k hk
    omega
  have e : S = (S.map Int.toNat).map fun k : Nat => (k : Int) := by
    rw [List.map_map]
    conv => lhs; rw [← List.map_id S]
    exact List.map_congr_left fun x hx => by
      have := nn x hx
      show x = ((x.toNat : Nat) : Int)
      omega
  refine ⟨S.map Int.toNat, e, sub_range ?_ fun x hx => ?_, ?_⟩
  · have nd : S.Nodup := p.nodup_iff.mpr (by
      refine List.pairwise_map.mpr (hn.imp fun {a b} h z => h ?_)
      exact_mod_cast z)
    rw [List.pairwise_map]
    have := List.Pairwise.and pw nd
    refine List.Pairwise.imp_of_mem (fun {a b} ha hb h => ?_) this
    have h1 := nn a ha
    have h2 := nn b hb
    have h3 := h.1
    have h4 : a ≠ b := h.2
    omega
  · obtain ⟨y, hy, rfl⟩ := List.mem_map.mp hx
    have := nn y hy
    omega
  · have := p.length_eq
    simpa using this
theorem erase_map {α β : Type} {f : α → β} : ∀ {xs : List α} {j : Nat}, (xs.map f).eraseIdx j = (xs.eraseIdx j).map f
  | [], _ => by simp
  | x :: xs, 0 => by simp
  | x :: xs, j + 1 => by simp [erase_map (xs := xs)]
theorem pick_perm {α : Type} : ∀ {xs : List α} {j : Nat} (h : j < xs.length), (xs[j] :: xs.eraseIdx j).Perm xs
  | x :: xs, 0, _ => by simp
  | x :: xs, j + 1, h => by
    have h : j < xs.length := by simpa using h
    have := pick_perm h
    rw [List.eraseIdx_cons_succ, List.getElem_cons_succ]
    exact (List.Perm.swap x xs[j] (xs.eraseIdx j)).trans (this.cons x)
theorem nls_rg {n : Int} : nls (rgD 0 n) = true := nls_map fun _ _ => by simp
end HF

set_option Elab.async false
set_option linter.all false
set_option maxRecDepth 100000
namespace HF
open PySem PySem.Spec PyProof.Rows L2 Y
theorem place0 : ∀ {xs : List Int} {p : Int}, xs.foldl (fun p b => 2 * p + b) p = p * 2 ^ xs.length + placeI xs
  | [], p => by simp [placeI]
  | x :: xs, p => by
    have h1 := place0 (xs := xs) (p := 2 * p + x)
    have h2 := place0 (xs := xs) (p := 2 * 0 + x)
    unfold placeI
    rw [List.foldl_cons, List.foldl_cons, h1, h2, List.length_cons, Int.pow_succ]
    have : (2 * p + x) * 2 ^ xs.length = p * (2 ^ xs.length * 2) + x * 2 ^ xs.length := by
      rw [Int.add_mul, Int.mul_comm 2 p, Int.mul_assoc, Int.mul_comm 2]
    rw [this]
    simp only [Int.mul_zero, Int.zero_add]
    omega
theorem place_cons {x : Int} {xs : List Int} : placeI (x :: xs) = x * 2 ^ xs.length + placeI xs := by
  have := place0 (xs := xs) (p := 2 * 0 + x)
  unfold placeI at this ⊢
  rw [List.foldl_cons, this]
  simp
theorem place_stands : ∀ {m k : Nat} (h : k < (stands m).length), placeI ((stands m)[k]) = k
  | 0, k, h => by
    have : k = 0 := by simpa [stands] using h
    subst this
    rfl
  | m + 1, k, h => by
    have sl := stands_len m
    by_cases c : k < (stands m).length
    · have e : (stands (m + 1))[k] = 0 :: (stands m)[k] := by
        simp only [stands]
        rw [List.getElem_append_left (by simpa using c)]
        simp
      rw [e, place_cons, place_stands c]
      simp
    · have l1 : (stands (m + 1)).length = (stands m).length + (stands m).length := by simp [stands]
      have c2 : k - (stands m).length < (stands m).length := by omega
      have e : (stands (m + 1))[k] = 1 :: (stands m)[k - (stands m).length] := by
        simp only [stands]
        rw [List.getElem_append_right (by simpa using Nat.le_of_not_lt c)]
        simp
      rw [e, place_cons, place_stands c2, (stands_st (List.getElem_mem c2)).len, sl]
      have : k = 2 ^ m + (k - 2 ^ m) := by omega
      have p : ((2 ^ m : Nat) : Int) = 2 ^ m := by simp
      omega
theorem stands_at {m : Nat} {st : List Int} (h : IsSt m st) : (stands m)[(placeI st).toNat]? = some st := by
  obtain ⟨k, hk, e⟩ := List.getElem_of_mem (mem_stands.mpr h)
  have := place_stands hk
  rw [e] at this
  rw [this]
  show (stands m)[k]? = some st
  rw [List.getElem?_eq_getElem hk, e]
def tolI (r : RuleT) (st : List Int) : Int := r.2.getD (placeI st).toNat 0
structure RuleLk (r : RuleT) : Prop where
  len : r.1.length ≤ 8
  tab : r.2.length = 2 ^ r.1.length
  bit : ∀ x ∈ r.2, 0 ≤ x ∧ x < 2
theorem RuleOk.lk {m : Nat} {r : RuleT} (h : RuleOk m r) : RuleLk r := ⟨Nat.le_trans h.len (by omega), h.tab, h.bit⟩
theorem tol_bit {r : RuleT} {st : List Int} (h : RuleLk r) : 0 ≤ tolI r st ∧ tolI r st < 2 := getD_bit h.bit _
theorem numD_map {α : Type} {f : α → D} {xs : List α} : numD (xs.map f) = ((List.range xs.length).zip xs).map fun p => D.tup [.int (p.1 : Nat), f p.2] := by
  unfold numD
  rw [List.length_map, pairsD_map]
end HF

set_option Elab.async false
set_option linter.all false
set_option maxRecDepth 100000
namespace HF
open PySem PySem.Spec PyProof.Rows L2 Y
end HF

set_option Elab.async false
set_option linter.all false
set_option maxRecDepth 100000
namespace HF
open PySem PySem.Spec PyProof.Rows L2 Y
theorem range_getD {α : Type} {xs : List α} {d : α} {m : Nat} (h : xs.length = m) : (List.range m).map (fun j => xs.getD j d) = xs := by
  subst h
  refine List.ext_getElem (by simp) fun i h1 h2 => ?_
  simp [List.getD_eq_getElem?_getD, List.getElem?_eq_getElem h2]
structure EarsOk (m : Nat) (r : RuleT) : Prop where
  sub : ∃ es : List Nat, r.1 = es.map (fun j : Nat => (j : Int)) ∧ es.Nodup ∧ ∀ j ∈ es, j < m
theorem RuleOk.ears {m : Nat} {r : RuleT} (h : RuleOk m r) : EarsOk m r := by
  obtain ⟨es, e1, s⟩ := h.sub
  exact ⟨es, e1, s.nodup List.nodup_range, fun j hj => List.mem_range.mp (s.subset hj)⟩
end HF

set_option Elab.async false
set_option linter.all false
set_option maxRecDepth 100000
namespace HF
open PySem PySem.Spec PyProof.Rows L2 Y
abbrev li (xs : List Int) : D := .lst (xs.map D.int)
theorem NetOk.lk {ns : List RuleT} {most k : Nat} (h : NetOk ns most) (hk : k < ns.length) : RuleOk ns.length (ns.getD k ([], [])) := by
  rw [List.getD_eq_getElem?_getD, List.getElem?_eq_getElem hk]
  exact h.rule _ (List.getElem_mem hk)
end HF

set_option Elab.async false
set_option linter.all false
set_option maxRecDepth 100000
namespace HF
open PySem PySem.Spec PyProof.Rows L2 Y
end HF

set_option Elab.async false
set_option linter.all false
set_option maxRecDepth 100000
namespace HF
open PySem PySem.Spec PyProof.Rows L2 Y
def Nd : Nat → D → Prop
  | 0, d => noDit d = true
  | n + 1, d => noDit d = true ∧ ∀ xs, d = .tup xs → xs.length ≤ 1000000 ∧ ∀ x ∈ xs, Nd n x
theorem Nd.no : ∀ {n : Nat} {d : D}, Nd n d → noDit d = true
  | 0, _, h => h
  | _ + 1, _, h => h.1
theorem Nd.down : ∀ {n : Nat} {d : D}, Nd (n + 1) d → Nd n d
  | 0, _, h => h.1
  | n + 1, _, h => ⟨h.1, fun xs e => ⟨(h.2 xs e).1, fun x hx => Nd.down ((h.2 xs e).2 x hx)⟩⟩
theorem nd_flat {n : Nat} {d : D} (h : noDit d = true) (h2 : ∀ xs, d ≠ .tup xs) : Nd n d := by
  cases n with
  | zero => exact h
  | succ n => exact ⟨h, fun xs e => absurd e (h2 xs)⟩
@[simp] theorem nd_int {n : Nat} {i : Int} : Nd n (.int i) := nd_flat rfl (by simp)
@[simp] theorem nd_bl {n : Nat} {b : Bool} : Nd n (.bl b) := nd_flat rfl (by simp)
@[simp] theorem nd_non {n : Nat} : Nd n .non := nd_flat rfl (by simp)
@[simp] theorem nd_str {n : Nat} {x : Str} : Nd n (.str x) := nd_flat rfl (by simp)
@[simp] theorem nd_lst {n : Nat} {x : List D} : Nd n (.lst x) := nd_flat rfl (by simp)
@[simp] theorem nd_dik {n : Nat} {k : List Key} {x : List D} : Nd n (.dik k x) := nd_flat rfl (by simp)
theorem Nd.tup {n : Nat} {xs : List D} (h : Nd (n + 1) (.tup xs)) : xs.length ≤ 1000000 ∧ ∀ x ∈ xs, Nd n x := h.2 xs rfl
end HF

set_option Elab.async false
set_option linter.all false
set_option maxRecDepth 100000
namespace HF
open PySem PySem.Spec PyProof.Rows L2 Y
end HF

set_option Elab.async false
set_option linter.all false
set_option maxRecDepth 100000
namespace HF
open PySem PySem.Spec PyProof.Rows L2 Y
inductive Pap where
  | rest | against (k : Nat) | split (k : Nat) (a b : Pap)
abbrev wRest : D := dt [114, 101, 115, 116]
abbrev wAg : D := dt [97, 103, 97, 105, 110, 115, 116]
abbrev wSplit : D := dt [115, 112, 108, 105, 116]
def Pap.d : Pap → D
  | .rest => .tup [wRest]
  | .against k => .tup [wAg, .int k]
  | .split k a b => .tup [wSplit, .int k, a.d, b.d]
def Pap.ok (m : Nat) : Pap → Prop
  | .rest => True
  | .against k => k < m
  | .split k a b => k < m ∧ a.ok m ∧ b.ok m
def sign (f : List Nat) (k c : Nat) : List Nat := f.take k ++ c :: f.drop (k + 1)
def both (x y : Option (List (List Int))) : Option (List (List Int)) := match x with
  | none => none
  | some a => match y with
    | none => none
    | some b => some (a ++ b)
end HF

set_option Elab.async false
set_option linter.all false
set_option maxRecDepth 100000
namespace HF
open PySem PySem.Spec PyProof.Rows L2 Y
theorem sort_lti {xs : List (List Int)} (h : ∀ x ∈ xs, x ≠ []) : sortD [lti xs] = .ok (lti (sortL xs)) := by
  cases xs with
  | nil =>
    have h1 := d_sortN (xs := [])
    have e1 : sortI [] = [] := by simp [sortI]
    have e2 : sortL [] = [] := by simp [sortL]
    rw [e1] at h1
    rw [e2]
    exact h1
  | cons x xs =>
    refine sortD_tups ?_
    unfold sortOk
    rw [Bool.or_eq_true]
    refine .inr (List.all_eq_true.mpr fun y hy => ?_)
    have := h y hy
    cases y with
    | nil => exact absurd rfl this
    | cons _ _ => rfl
end HF

set_option Elab.async false
set_option linter.all false
set_option maxRecDepth 100000
namespace HF
open PySem PySem.Spec PyProof.Rows L2 Y
end HF

set_option Elab.async false
set_option linter.all false
set_option maxRecDepth 100000
namespace HF
open PySem PySem.Spec PyProof.Rows L2 Y
theorem put_new {ks : List Nat} {k : Nat} (h : k ∉ ks) {ds : List D} {d : D} : putKs (ks.map fun k : Nat => (Sum.inl (k : Int) : Key)) (Sum.inl (k : Int)) = (ks ++ [k]).map (fun k : Nat => (Sum.inl (k : Int) : Key)) ∧ putDs (ks.map fun k : Nat => (Sum.inl (k : Int) : Key)) ds (Sum.inl (k : Int)) d = ds ++ [d] := by
  have n : (Sum.inl (k : Int) : Key) ∉ ks.map fun k : Nat => (Sum.inl (k : Int) : Key) := fun z => by
    obtain ⟨j, hj, e⟩ := List.mem_map.mp z
    have e2 := Sum.inl.inj e
    exact h (by rw [← show j = k by omega]; exact hj)
  unfold putKs putDs
  rw [if_neg n, if_neg n, List.map_append]
  exact ⟨rfl, rfl⟩
end HF

set_option Elab.async false
set_option linter.all false
set_option maxRecDepth 100000
namespace HF
open PySem PySem.Spec PyProof.Rows L2 Y
def flipI (st : List Int) (k : Nat) : List Int := withI st k (1 - st.getD k 0)
def addS (L : List (List Int)) (t : List Int) : List (List Int) := if t ∈ L then L else L ++ [t]
def nextI (ns : List RuleT) (st : List Int) : List (List Int) := (wrongI ns st).map (flipI st)
def stepS (ns : List RuleT) (L : List (List Int)) (st : List Int) : List (List Int) := (nextI ns st).foldl addS L
structure InS (m : Nat) (L : List (List Int)) : Prop where
  nd : L.Nodup
  st : ∀ x ∈ L, IsSt m x
theorem nodup_len {α : Type} [DecidableEq α] : ∀ {A B : List α}, A.Nodup → (∀ x ∈ A, x ∈ B) → A.length ≤ B.length
  | [], B, _, _ => by simp
  | x :: A, B, h, s => by
    obtain ⟨h1, h2⟩ := List.nodup_cons.mp h
    have hx := s x (by simp)
    have ih := nodup_len (A := A) (B := B.erase x) h2 fun y hy => (List.mem_erase_of_ne fun z : y = x => h1 (by rw [← z]; exact hy)).mpr (s y (by simp [hy]))
    rw [List.length_erase_of_mem hx] at ih
    have : 0 < B.length := List.length_pos_of_mem hx
    rw [List.length_cons]
    omega
theorem InS.len {m : Nat} {L : List (List Int)} (h : InS m L) : L.length ≤ 2 ^ m := by
  have := nodup_len h.nd (B := stands m) fun x hx => mem_stands.mpr (h.st x hx)
  rwa [stands_len] at this
theorem InS.add {m : Nat} {L : List (List Int)} {t : List Int} (h : InS m L) (ht : IsSt m t) : InS m (addS L t) := by
  unfold addS
  by_cases c : t ∈ L
  · rwa [if_pos c]
  · rw [if_neg c]
    refine ⟨List.nodup_append.mpr ⟨h.nd, by simp, fun a ha b hb z => ?_⟩, fun x hx => ?_⟩
    · rw [List.mem_singleton] at hb
      exact c (by rw [← hb, ← z]; exact ha)
    · rcases List.mem_append.mp hx with hx | hx
      · exact h.st x hx
      · rw [List.mem_singleton] at hx
        rw [hx]; exact ht
theorem flip_st {m k : Nat} {st : List Int} (h : IsSt m st) (hk : k < m) : IsSt m (flipI st k) := by
  have g := h.get k
  refine ⟨?_, fun x hx => ?_⟩
  · unfold flipI withI
    rw [List.length_append, List.length_cons, List.length_take, List.length_drop, h.len]
    omega
  · unfold flipI withI at hx
    rcases List.mem_append.mp hx with hx | hx
    · exact h.bit x (List.mem_of_mem_take hx)
    · rcases List.mem_cons.mp hx with rfl | hx
      · omega
      · exact h.bit x (List.mem_of_mem_drop hx)
theorem wrong_lt {ns : List RuleT} {st : List Int} {k : Nat} (h : k ∈ wrongI ns st) : k < ns.length := by
  unfold wrongI at h
  exact List.mem_range.mp (List.mem_filter.mp h).1
theorem InS.step {ns : List RuleT} {L : List (List Int)} {st : List Int} (h : InS ns.length L) (hs : IsSt ns.length st) : InS ns.length (stepS ns L st) := by
  have : ∀ (ts : List (List Int)) (L : List (List Int)), InS ns.length L → (∀ t ∈ ts, IsSt ns.length t) → InS ns.length (ts.foldl addS L) := fun ts => by
    induction ts with
    | nil => intro L h _; exact h
    | cons t ts ih => intro L h ht; exact ih _ (h.add (ht t (by simp))) fun x hx => ht x (by simp [hx])
  refine this _ L h fun t ht => ?_
  obtain ⟨k, hk, rfl⟩ := List.mem_map.mp ht
  exact flip_st hs (wrong_lt hk)
theorem law_change_ok {st : List Int} {m k : Nat} (hs : IsSt m st) (hk : k < m) (hm : m ≤ 20) : C.g__law_change [ti st, .int k] = .ok (.fr (ti (flipI st k))) := by
  have a := atI_mapI (xs := st) (i := k) (by omega) (by rw [hs.len]; omega)
  rw [Int.toNat_natCast] at a
  have a : atI (st.map D.int) k = some (.int (st.getD k 0)) := a
  have l := hs.len
  have c1 : Y.cutD (st.map D.int) none (some (k : Int)) = (st.take k).map D.int := by rw [cut_to, List.map_take]
  have c2 : Y.cutD (st.map D.int) (some ((k : Int) + 1)) none = (st.drop (k + 1)).map D.int := by rw [show ((k : Int) + 1) = ((k + 1 : Nat) : Int) by omega, cut_from, List.map_drop]
  simp only [C.g__law_change, C.m__law_change]
  unfold flipI withI
  generalize st.getD k 0 = b at a ⊢
  have z1 : szOk ((st.take k).length + 1) = true := szOk_of (by rw [List.length_take]; omega)
  have z2 : szOk ((st.take k).length + (1 + (st.drop (k + 1)).length)) = true := szOk_of (by rw [List.length_take, List.length_drop]; omega)
  have z3 : szOk ((st.take k).length + 1 + (st.drop (k + 1)).length) = true := szOk_of (by rw [List.length_take, List.length_drop]; omega)
  generalize st.take k = A at *
  generalize st.drop (k + 1) = B at *
  simp [e_fnP, a, c1, c2, z1, z2, z3]
abbrev kt (t : List Int) : List Key := t.map Sum.inl
theorem keys_ti : ∀ t : List Int, keysOf (t.map D.int) = some (kt t)
  | [] => rfl
  | x :: t => by
    rw [List.map_cons]
    unfold keysOf
    rw [keys_ti t]
    rfl
end HF

set_option Elab.async false
set_option linter.all false
set_option maxRecDepth 100000
namespace HF
open PySem PySem.Spec PyProof.Rows L2 Y
end HF

set_option Elab.async false
set_option linter.all false
set_option maxRecDepth 100000
namespace HF
open PySem PySem.Spec PyProof.Rows L2 Y
theorem flip_getD {m : Nat} {st : List Int} (hs : st.length = m) {k j : Nat} (hk : k < m) : (flipI st k).getD j 0 = if j = k then 1 - st.getD k 0 else st.getD j 0 := by
  unfold flipI withI
  generalize 1 - st.getD k 0 = b
  rw [List.getD_eq_getElem?_getD, List.getD_eq_getElem?_getD]
  have lt : (st.take k).length = k := by rw [List.length_take]; omega
  by_cases h1 : j < k
  · rw [List.getElem?_append_left (by omega), if_neg (by omega), List.getElem?_take_of_lt h1]
  · rw [List.getElem?_append_right (by omega), lt]
    by_cases h2 : j = k
    · subst h2
      rw [Nat.sub_self, if_pos rfl]
      rfl
    · rw [if_neg h2]
      obtain ⟨i, rfl⟩ := Nat.exists_eq_add_of_le (show k + 1 ≤ j by omega)
      rw [show k + 1 + i - k = i + 1 by omega, List.getElem?_cons_succ, List.getElem?_drop]
theorem rest_ought {ns : List RuleT} {st : List Int} (h : wrongI ns st = []) {k : Nat} (hk : k < ns.length) : oughtI ns st k = st.getD k 0 := by
  unfold wrongI at h
  rw [List.filter_eq_nil_iff] at h
  simpa using h k (List.mem_range.mpr hk)
end HF

set_option Elab.async false
set_option linter.all false
set_option maxRecDepth 100000
namespace HF
open PySem PySem.Spec PyProof.Rows L2 Y
theorem addS_mem {t x : List Int} {L : List (List Int)} : x ∈ addS L t ↔ x ∈ L ∨ x = t := by
  unfold addS
  split
  · rename_i c
    exact ⟨.inl, fun h => h.elim id fun e => e ▸ c⟩
  · rw [List.mem_append, List.mem_singleton]
theorem eqPs_map {α : Type} [DecidableEq α] {f : α → D} (hf : ∀ x y, eqP (f x) (f y) = decide (x = y)) : ∀ {xs ys : List α}, eqPs (xs.map f) (ys.map f) = decide (xs = ys)
  | [], [] => by simp [eqPs]
  | [], _ :: _ => by simp [eqPs]
  | _ :: _, [] => by simp [eqPs]
  | x :: xs, y :: ys => by
    have ih := eqPs_map hf (xs := xs) (ys := ys)
    simp only [List.map_cons, eqPs, hf, ih, List.cons.injEq]
    by_cases a : x = y <;> by_cases b : xs = ys <;> simp [a, b]
theorem eqP_ti {a b : List Int} : eqP (ti a) (ti b) = decide (a = b) := by rw [eqP_tup, eqPs_ints]
theorem eqP_lti {a b : List (List Int)} : eqP (lti a) (lti b) = decide (a = b) := by rw [eqP_lst, eqPs_map fun x y => eqP_ti]
theorem ne_lti {a b : List (List Int)} : neD (lti a) (lti b) = .ok (.bl (!decide (a = b))) := by rw [neD_of (n := 2) fit_lti fit_lti, eqP_lti]
end HF

set_option Elab.async false
set_option linter.all false
set_option maxRecDepth 100000
namespace HF
open PySem PySem.Spec PyProof.Rows L2 Y
@[simp] theorem e_dget {a b : EM} {ρ : Y.Env} : cDGet a b ρ = (a ρ >>= fun p => b p.2 >>= fun q => (p.1.d q.2).nox >>= fun x => (q.1.d q.2).nox >>= fun y => (getDic x y).nox >>= fun o => match o with | some z => R.ok (.vl z, q.2) | none => .stk) := id rfl
end HF

set_option Elab.async false
set_option linter.all false
set_option maxRecDepth 100000
namespace HF
open PySem PySem.Spec PyProof.Rows L2 Y
end HF

set_option Elab.async false
set_option linter.all false
set_option maxRecDepth 100000
namespace HF
open PySem PySem.Spec PyProof.Rows L2 Y
end HF

set_option Elab.async false
set_option linter.all false
set_option maxRecDepth 100000
namespace HF
open PySem PySem.Spec PyProof.Rows L2 Y
end HF

set_option Elab.async false
set_option linter.all false
set_option maxRecDepth 100000
namespace HF
open PySem PySem.Spec PyProof.Rows L2 Y
end HF

set_option Elab.async false
set_option linter.all false
set_option maxRecDepth 100000
namespace H
open PySem PySem.Spec PyProof.Rows L2 Y
section
variable {ns : List RuleT} {most m : Nat} {st : List Int}
theorem f_good (ok : NetOk ns most) (hm : most ≤ 100) : HF.GoodNet ns := by
  have g := ok.good hm
  exact ⟨g.sz, g.ear⟩
theorem f_st (h : IsSt m st) : HF.IsSt m st := ⟨h.len, h.bit⟩
theorem f_stands : ∀ m, HF.stands m = stands m
  | 0 => rfl
  | m + 1 => by
    have := f_stands m
    unfold HF.stands stands
    rw [this]
theorem f_rests : HF.restsI ns = restsI ns := by
  unfold HF.restsI restsI
  rw [f_stands]
  rfl
theorem restsF_ok (ok : NetOk ns most) (hm : most ≤ 19) : C.g_rests_of [dNetF ns] = .ok (.fr (lti (restsI ns))) := by
  have := HF.rests_of_ok (f_good ok (by omega)) (by have := ok.le; omega)
  rw [f_rests] at this
  exact this
end
end H

set_option Elab.async false
set_option linter.all false
set_option maxRecDepth 100000
set_option maxHeartbeats 2000000
namespace H
open PySem PySem.Spec PyProof.Rows L2 Y
section
variable {ns : List RuleT} {most k j : Nat}
theorem fold_turnF (ok : NetOk ns most) (h7 : ns.length ≤ 7) (hk : k < ns.length) (hn : (k : Int) ∉ (ownQ ns k).1) (hj : j < ns.length) (c : j ≠ k) {N : D} {F : List D} (hF : F.length ≤ 100) :
    turnF (tmTup [4, 5]) C.b_folded_2_1 [4, 5, 6, 7] (.tup [.int j, dRuleF (ns.getD j ([], []))]) [some N, some (.int k), some (dRuleF (ownQ ns k)), some (.lst F), none, none, none, none, none] =
      if 4 < (foldQ ns k j).1.length then .er "TooMany" [] else .ok (.nx, [some N, some (.int k), some (dRuleF (ownQ ns k)), some (.lst (F ++ [dRule (foldQ ns k j)])), none, none, none, none, none]) := by
  obtain ⟨lk, l7⟩ := foldT_lk ok h7 hk hj
  have rj := net_rule ok hj
  have ro := slim_ok4 (net_rule ok hk)
  have tw := told_wo_okF rj ro hn h7
  have sr := slim_rule7_okF lk l7
  have nj : ¬ ((j : Int) = (k : Int)) := by omega
  have w := foldT_w (k := k) rj ro
  have sl : (slimR (foldT (ns.getD j ([], [])) (ownQ ns k) k)).1.length ≤ 7 := by
    rw [slim_len]
    have := hpP_len (r := foldT (ns.getD j ([], [])) (ownQ ns k) k) (i := (foldT (ns.getD j ([], [])) (ownQ ns k) k).1.length)
    unfold hpL
    omega
  have lq : (foldQ ns k j).1.length = (slimR (foldT (ns.getD j ([], [])) (ownQ ns k) k)).1.length := foldQ_len rfl
  have dq : dRule (foldQ ns k j) = .tup [ti ((slimR (foldT (ns.getD j ([], [])) (ownQ ns k) k)).1.map (shE k)), ti (slimR (foldT (ns.getD j ([], [])) (ownQ ns k) k)).2] := rfl
  rw [lq, dq]
  have ds : dRuleF (slimR (foldT (ns.getD j ([], [])) (ownQ ns k) k)) = .tup [tf (slimR (foldT (ns.getD j ([], [])) (ownQ ns k) k)).1, ti (slimR (foldT (ns.getD j ([], [])) (ownQ ns k) k)).2] := rfl
  rw [ds] at sr
  generalize hS : slimR (foldT (ns.getD j ([], [])) (ownQ ns k) k) = S at *
  generalize dRuleF (foldT (ns.getD j ([], [])) (ownQ ns k) k) = DT at *
  generalize dRuleF (ns.getD j ([], [])) = DJ at *
  generalize dRuleF (ownQ ns k) = DO at *
  have ls : lenD [tf S.1] = .ok (.int S.1.length) := len_tf
  have cc := comp_map (tm := tmName 8) (t := cYes) (e := C.e_folded_2_1) (vs := [8]) (ws := []) (ρ := [some N, some (.int k), some DO, some (.lst F), some (.int j), some DJ, some (tf S.1), some (ti S.2), none]) D.int (fun e => D.int (shE k e)) S.1 fun e he => by
    simp only [turnC, C.e_folded_2_1, shE]
    generalize tf S.1 = S1 at *
    generalize ti S.2 = S2 at *
    by_cases c : e > (k : Int)
    · simp [c]
    · simp [c]
  have e2 : (S.1.map fun e => D.int (shE k e)) = (S.1.map (shE k)).map D.int := by rw [List.map_map]; rfl
  rw [e2] at cc
  have it : itD (tf S.1) = .ok (S.1.map D.int) := rfl
  have z1 : szOk (S.1.map D.int).length = true := szOk_of (by rw [List.length_map]; omega)
  have z2 : szOk ((S.1.map (shE k)).map D.int).length = true := szOk_of (by rw [List.length_map, List.length_map]; omega)
  have z3 : szOk (F.length + 1) = true := szOk_of (by omega)
  have tp : tupleD [.lst ((S.1.map (shE k)).map D.int)] = .ok (ti (S.1.map (shE k))) := rfl
  simp only [turnF, C.b_folded_2_1]
  generalize C.e_folded_2_1 = E1 at *
  generalize ti (S.1.map (shE k)) = SK at *
  generalize (S.1.map (shE k)).map D.int = SKL at *
  generalize hS1 : tf S.1 = S1 at *
  generalize ti S.2 = S2 at *
  generalize S.1.map D.int = SL at *
  by_cases c4 : 4 < S.1.length
  · rw [if_pos c4]
    have c5 : (4 : Int) < (S.1.length : Int) := by omega
    generalize (S.1.length : Int) = LS at *
    rcases tw with tw | tw <;> simp [nj, tw, sr, ls, c5]
  · rw [if_neg c4]
    have c5 : ¬ (4 : Int) < (S.1.length : Int) := by omega
    generalize (S.1.length : Int) = LS at *
    rcases tw with tw | tw <;> simp [nj, tw, sr, ls, c5, it, z1, cc, z2, tp, z3]
theorem fold_loopF (ok : NetOk ns most) (h7 : ns.length ≤ 7) (hk : k < ns.length) (hn : (k : Int) ∉ (ownQ ns k).1) {N : D} : ∀ (js : List Nat) (F : List D), (∀ j ∈ js, j < ns.length) → F.length + js.length ≤ 50 →
    forL (tmTup [4, 5]) C.b_folded_2_1 [4, 5, 6, 7] [] (js.map fun j : Nat => D.tup [.int j, dRuleF (ns.getD j ([], []))]) [some N, some (.int k), some (dRuleF (ownQ ns k)), some (.lst F), none, none, none, none, none] =
      if ((js.filter fun j => decide (j ≠ k)).any fun j => decide (4 < (foldQ ns k j).1.length)) = true then .er "TooMany" [] else .ok (.nx, [some N, some (.int k), some (dRuleF (ownQ ns k)), some (.lst (F ++ ((js.filter fun j => decide (j ≠ k)).map (foldQ ns k)).map dRule)), none, none, none, none, none])
  | [], F, _, _ => by
    rw [List.filter_nil, List.any_nil, if_neg Bool.false_ne_true, List.map_nil, List.map_nil, List.map_nil, List.append_nil]; rfl
  | j :: js, F, hj, hF => by
    rw [List.length_cons] at hF
    have hj0 := hj j (by simp)
    have ih := fun F' (h' : F'.length + js.length ≤ 50) => fold_loopF ok h7 hk hn (N := N) js F' (fun x hx => hj x (by simp [hx])) h'
    rw [List.map_cons]
    by_cases c : j = k
    · rw [List.filter_cons_of_neg (by simp [c])]
      refine for_cons ?_ (fun _ z => by cases z) (ih F (by omega))
      subst c
      simp only [turnF, C.b_folded_2_1]
      generalize dRuleF (ns.getD j ([], [])) = DJ
      generalize dRuleF (ownQ ns j) = DO
      simp
    · rw [List.filter_cons_of_pos (by simp [c]), List.any_cons]
      have t := fold_turnF ok h7 hk hn hj0 c (N := N) (F := F) (by omega)
      by_cases c4 : 4 < (foldQ ns k j).1.length
      · rw [if_pos c4] at t
        rw [decide_eq_true c4, Bool.true_or, if_pos rfl]
        exact for_er t
      · rw [if_neg c4] at t
        rw [decide_eq_false c4, Bool.false_or]
        have ih := ih (F ++ [dRule (foldQ ns k j)]) (by simp; omega)
        refine for_cons t (fun _ z => by cases z) (ih.trans ?_)
        split
        · rfl
        · rw [List.map_cons, List.map_cons, List.append_assoc]; rfl
theorem own_rule_okF (ok : NetOk ns most) (hm : most ≤ 20) (hk : k < ns.length) : C.g_own_rule_2 [dNetF ns, .int k] = if (k : Int) ∈ (ownQ ns k).1 ∨ ns.length = 1 then .er "Hears" [] else .ok (.vl (dRuleF (ownQ ns k))) := by
  have hn := ok.le
  have rk := net_rule ok hk
  have lo := look_at_switch_ok (n := ns.map dRuleF) (k := k) (by rw [List.length_map]; exact hk)
  have lo : C.g_look_at_switch [dNetF ns, .int k] = .ok (.fr .non) := lo
  have sr := slim_rule7_okF rk.lk (by have := rk.len; omega)
  have ix : ixD (dNetF ns) (.int k) = .ok (dRuleF (ns.getD k ([], []))) := by
    show (match atI (ns.map dRuleF) (k : Int) with | some d => Y.R.ok d | none => Y.R.stk) = _
    rw [netF_at hk]
  have inn := inF_dec (x := (k : Int)) (xs := (ownQ ns k).1)
  have x0 : ixD (dRuleF (ownQ ns k)) (.int 0) = .ok (tf (ownQ ns k).1) := rfl
  have lN : lenD [dNetF ns] = .ok (.int ns.length) := by rw [d_lenT, List.length_map]
  have sr : C.g_slim_rule_2 [dRuleF (ns.getD k ([], []))] = .ok (.fr (dRuleF (ownQ ns k))) := sr
  simp only [C.g_own_rule_2, C.m_own_rule_2]
  generalize hO : dRuleF (ownQ ns k) = DO at *
  generalize dRuleF (ns.getD k ([], [])) = DK at *
  generalize dNetF ns = N at *
  generalize tf (ownQ ns k).1 = O1 at *
  by_cases c : (k : Int) ∈ (ownQ ns k).1
  · rw [if_pos (.inl c)]
    rw [decide_eq_true c] at inn
    simp [e_fnP, lo, ix, sr, x0, inn]
  · rw [decide_eq_false c] at inn
    by_cases c1 : ns.length = 1
    · rw [if_pos (.inr c1)]
      rw [c1] at lN
      simp [e_fnP, lo, ix, sr, x0, inn, lN]
    · rw [if_neg (fun z => z.elim c c1)]
      have c2 : ¬ (ns.length : Int) = 1 := by omega
      generalize (ns.length : Int) = LN at *
      simp [e_fnP, lo, ix, sr, x0, inn, lN, c2]
theorem folded_okF (ok : NetOk ns most) (hm : most ≤ 7) (hk : k < ns.length) (hn : (k : Int) ∉ (ownQ ns k).1) (h1 : ns.length ≠ 1) :
    C.g_folded_2 [dNetF ns, .int k] = if manyQ ns k = true then .er "TooMany" [] else .ok (.fr (dNet (foldN ns k))) := by
  have le := ok.le
  have ow := own_rule_okF ok (by omega) hk
  rw [if_neg (fun z => z.elim hn h1)] at ow
  have lp := fold_loopF ok (by omega) hk hn (N := dNetF ns) (List.range ns.length) [] (fun j hj => List.mem_range.mp hj) (by simp; omega)
  rw [List.nil_append] at lp
  have nm : numD (ns.map dRuleF) = (List.range ns.length).map fun j : Nat => D.tup [.int j, dRuleF (ns.getD j ([], []))] := by
    rw [numD_map, zip_rangeG (d := ([], [])), List.map_map]
    rfl
  rw [← nm] at lp
  have zn : szOk (numD (ns.map dRuleF)).length = true := by rw [nm, List.length_map, List.length_range]; exact szOk_of (by omega)
  have z0 : szOk (ns.map dRuleF).length = true := szOk_of (by rw [List.length_map]; omega)
  have fl : (foldN ns k).length ≤ 7 := by
    unfold foldN othQ
    rw [List.length_map]
    have := List.length_filter_le (fun j => decide (j ≠ k)) (List.range ns.length)
    rw [List.length_range] at this
    omega
  have zf : szOk ((foldN ns k).map dRule).length = true := szOk_of (by rw [List.length_map]; omega)
  have nF : nls ((foldN ns k).map dRule) = true := nls_map fun r _ => by simp [dRule]
  have tp : tupleD [.lst ((foldN ns k).map dRule)] = .ok (dNet (foldN ns k)) := rfl
  have lp : forL (tmTup [4, 5]) C.b_folded_2_1 [4, 5, 6, 7] [] (numD (ns.map dRuleF)) [some (dNetF ns), some (.int k), some (dRuleF (ownQ ns k)), some (.lst []), none, none, none, none, none] =
      if manyQ ns k = true then .er "TooMany" [] else .ok (.nx, [some (dNetF ns), some (.int k), some (dRuleF (ownQ ns k)), some (.lst ((foldN ns k).map dRule)), none, none, none, none, none]) := lp
  have it : itD (dNetF ns) = .ok (ns.map dRuleF) := rfl
  simp only [C.g_folded_2, C.m_folded_2]
  generalize C.b_folded_2_1 = B1 at *
  generalize hFD : dNet (foldN ns k) = FD at *
  generalize (foldN ns k).map dRule = FL at *
  generalize hND : numD (ns.map dRuleF) = ND at *
  generalize dRuleF (ownQ ns k) = DO at *
  generalize hN : dNetF ns = N at *
  generalize ns.map dRuleF = NL at *
  cases c : manyQ ns k with
  | true =>
    rw [c, if_pos rfl] at lp
    simp [e_fnP, ow, it, hND, zn, z0, lp, szOk_of]
  | false =>
    rw [c, if_neg Bool.false_ne_true] at lp
    simp [e_fnP, ow, it, hND, zn, z0, lp, tp, zf, nF, shAt, chkO_ws, szOk_of]
theorem oughtF_ok {st : List Int} (ok : NetOk ns most) (hm : most ≤ 100) (hs : IsSt ns.length st) (hk : k < ns.length) : C.g_ought [dNetF ns, ti st, .int k] = .ok (.vl (.int (oughtI ns st k))) := HF.ought_ok (f_good ok hm) (f_st hs) hk
theorem unfolded_okF (ok : NetOk ns most) (hm : most ≤ 7) (hk : k < ns.length) (hn : (k : Int) ∉ (ownQ ns k).1) (h1 : ns.length ≠ 1) (hq : manyQ ns k = false) {st : List Int} (hs : IsSt (ns.length - 1) st) :
    C.g_unfolded_2 [dNetF ns, .int k, ti st] = .ok (.fr (ti (insI st k (oughtI ns (insI st k 0) k)))) := by
  have le := ok.le
  have g := ok.good (by omega)
  have fo := folded_okF ok hm hk hn h1
  rw [hq, if_neg Bool.false_ne_true] at fo
  have fl := foldN_len (ns := ns) hk
  have lk := look_at_stand_ok (n := (foldN ns k).map dRule) (xs := st) (by rw [hs.len]; omega) hs.bit (by rw [hs.len, List.length_map, fl])
  have lk : C.g_look_at_stand [dNet (foldN ns k), ti st] = .ok (.fr .non) := lk
  have s0 : IsSt ns.length (insI st k 0) := insI_st hs hk ⟨by omega, by omega⟩
  have ou := oughtF_ok ok (by omega) s0 hk
  have l := hs.len
  have c1 : Y.cutD (st.map D.int) none (some (k : Int)) = (st.take k).map D.int := by rw [cut_to, List.map_take]
  have c2 : Y.cutD (st.map D.int) (some (k : Int)) none = (st.drop k).map D.int := by rw [cut_from, List.map_drop]
  simp only [C.g_unfolded_2, C.m_unfolded_2]
  generalize oughtI ns (insI st k 0) k = b at *
  unfold insI at ou ⊢
  have z1 : szOk ((st.take k).length + 1) = true := szOk_of (by rw [List.length_take]; omega)
  have z2 : szOk ((st.take k).length + (1 + (st.drop k).length)) = true := szOk_of (by rw [List.length_take, List.length_drop]; omega)
  have z3 : szOk ((st.take k).length + 1 + (st.drop k).length) = true := szOk_of (by rw [List.length_take, List.length_drop]; omega)
  generalize st.take k = A at *
  generalize st.drop k = B at *
  generalize dNet (foldN ns k) = FD at *
  generalize dNetF ns = N at *
  have ou : C.g_ought [N, .tup (A.map D.int ++ D.int 0 :: B.map D.int), .int k] = .ok (.vl (.int b)) := by
    have := ou
    rw [show ti (A ++ 0 :: B) = .tup (A.map D.int ++ D.int 0 :: B.map D.int) by simp] at this
    exact this
  simp [e_fnP, fo, lk, ou, c1, c2, z1, z2, z3]
end
end H

set_option Elab.async false
set_option linter.all false
set_option maxRecDepth 100000
set_option maxHeartbeats 2000000
namespace H
open PySem PySem.Spec PyProof.Rows L2 Y
abbrev tnF (E : List Nat) : D := .ftu (E.map fun k : Nat => D.int (k : Nat))
theorem law_names_okF {n : Int} {m : Nat} (hm : m ≤ 100) : ∃ (E : List Nat) (n' : Int), C.g__law_names_2 [.lst [.int n], .int m] = .ok (.fr (tnF E), [some (.lst [.int n']), none]) ∧ E.Perm (List.range m) := by
  obtain ⟨ρ1, hl, n1, L, E, o, eρ, pm, el⟩ := for_inx (tm := tmName 4) (body := C.b__law_names_2_1) (vs := [4]) (ws := []) (fun k : Nat => D.int (k : Nat))
    (fun i ρ => ∃ (b : Int) (L E : List Nat) (o : Option D), ρ = [some (.lst [.int b]), some (.int m), some (ln' L), some (ln' E), o] ∧ (E ++ L).Perm (List.range m) ∧ E.length = i ∧ o = none) m
    [some (.lst [.int n]), some (.int m), some (ln' (List.range m)), some (.lst []), none]
    ⟨n, List.range m, [], none, rfl, by simp, rfl, rfl⟩ (fun i ρ hi ⟨b, L, E, o, eρ, pm, el, eo⟩ => by
      subst eρ
      subst eo
      have ll : L.length = m - i := by have := pm.length_eq; rw [List.length_append, List.length_range] at this; omega
      have tk := take_ok (n := b) (m := L.length) (by omega) (by omega)
      obtain ⟨j, hj⟩ : ∃ j : Nat, b % (L.length : Int) = j := ⟨(b % (L.length : Int)).toNat, by have := Int.emod_nonneg b (b := (L.length : Int)) (by omega); omega⟩
      have hjl : j < L.length := by have := Int.emod_lt_of_pos b (b := (L.length : Int)) (by omega); omega
      have ix := ixN_nat (n := L.length) (k := j) hjl
      have zl : szOk L.length = true := szOk_of (by omega)
      have ze : szOk (E.length + 1) = true := szOk_of (by omega)
      refine ⟨[some (.lst [.int (b / L.length)]), some (.int m), some (ln' (L.eraseIdx j)), some (ln' (E ++ [L[j]])), none], ?_, ⟨_, L.eraseIdx j, E ++ [L[j]], _, rfl, ?_, by simp [el], rfl⟩, by simp⟩
      · simp only [turnF, C.b__law_names_2_1]
        simp [tk, hj, popRes, zl, ze, ix, hjl, erase_map]
      · have := pick_perm hjl
        rw [List.append_assoc]
        exact (List.Perm.append_left E this).trans pm)
  subst eρ
  obtain ⟨el, eo⟩ := el
  subst eo
  have L0 : L = [] := by
    have := pm.length_eq
    rw [List.length_append, List.length_range] at this
    exact List.length_eq_zero_iff.mp (by omega)
  subst L0
  rw [List.append_nil] at pm
  refine ⟨E, n1, ?_, pm⟩
  have rg := rgB_of (n := m) (by omega)
  have rg0 : ln' (List.range m) = .lst (rgD 0 m) := by rw [rgD_nat]
  rw [rg0] at hl
  have rM : rngOk m = true := rngOk_of (by omega) (by omega)
  have zM : szOk m = true := szOk_of (by omega)
  have hl : forL _ _ _ _ _ _ = Y.R.ok (Fl.nx, [_, _, _, some (.lst (E.map fun k : Nat => D.int (k : Nat))), none]) := hl
  have tE : tupleFD [.lst (E.map fun k : Nat => D.int (k : Nat))] = .ok (tnF E) := by rfl
  simp only [C.g__law_names_2, C.m__law_names_2]
  generalize C.b__law_names_2_1 = B1 at *
  simp [e_fnD, rg, rM, zM, nls_rg, hl, tE, shAt, chkO_ws, szOk_of]
theorem is_order96_okF {E : List Nat} {m : Nat} (pm : E.Perm (List.range m)) (hm : m ≤ 100) : C.g_is_order_3 [tnF E, .int m] = .ok (.fr (.bl true)) := by
  have el : E.length = m := by have := pm.length_eq; rwa [List.length_range] at this
  have nd : E.Nodup := pm.nodup_iff.mpr List.nodup_range
  have lt : ∀ x ∈ E, x < m := fun x hx => List.mem_range.mp (pm.mem_iff.mp hx)
  have c := comp_map (tm := tmName 2) (t := cYes) (e := C.e_is_order_3_1) (vs := [2]) (ws := []) (ρ := [some (tnF E), some (.int m), none]) (fun k : Nat => D.int (k : Nat)) (fun _ => D.bl true) E fun k hk => by
    have up : C.g_is_upto [.int (k : Nat), .int m] = .ok (.fr (.bl true)) := by
      rw [is_upto_int]
      have := lt k hk
      rw [decide_eq_true (by omega)]
    generalize tnF E = T at *
    simp only [turnC, C.e_is_order_3_1]
    simp [up, -is_upto_int]
  have al : allD [.lst (E.map fun _ => D.bl true)] = .ok (.bl true) := by
    have : E.map (fun _ => D.bl true) = (E.map fun _ => true).map D.bl := by rw [List.map_map]; rfl
    rw [this, d_all]
    have : (E.map fun _ => true).all id = true := by rw [List.all_eq_true]; intro x hx; obtain ⟨_, _, rfl⟩ := List.mem_map.mp hx; rfl
    simpa using this
  have sq : seqG (tnF E) = some (E.map fun k : Nat => (k : Int)) := by
    show intsOf (E.map fun k : Nat => D.int (k : Nat)) = _
    have : (E.map fun k : Nat => D.int (k : Nat)) = (E.map fun k : Nat => (k : Int)).map D.int := by rw [List.map_map]; rfl
    rw [this]
    exact Y.ints_map _
  have ndI : (E.map fun k : Nat => (k : Int)).Nodup := by
    rw [List.nodup_iff_pairwise_ne, List.pairwise_map]
    exact (List.nodup_iff_pairwise_ne.mp nd).imp fun h z => h (by omega)
  have dd := dedupI_of ndI
  have lt2 : lenD [tnF E] = .ok (.int m) := by
    show R.ok (D.int ((E.map fun k : Nat => D.int (k : Nat)).length : Nat)) = _
    rw [List.length_map, el]
  have it : itD (tnF E) = .ok (E.map fun k : Nat => D.int (k : Nat)) := rfl
  have zE : szOk (E.map fun k : Nat => D.int (k : Nat)).length = true := szOk_of (by rw [List.length_map]; omega)
  have zB : szOk (E.map fun _ => D.bl true).length = true := szOk_of (by rw [List.length_map]; omega)
  have zI : (E.map fun k : Nat => (k : Int)).length ≤ 4000 := by rw [List.length_map]; omega
  have lI : (E.map fun k : Nat => (k : Int)).length = m := by rw [List.length_map, el]
  have m4 : m ≤ 4000 := by omega
  have isT : Y.isTup (tnF E) = true := rfl
  have nD : isFt (tnF E) = true := rfl
  simp only [C.g_is_order_3, C.m_is_order_3]
  generalize C.e_is_order_3_1 = E1 at *
  generalize E.map (fun _ => D.bl true) = BL at *
  generalize E.map (fun k : Nat => (k : Int)) = EI at *
  generalize E.map (fun k : Nat => D.int (k : Nat)) = ED at *
  generalize hT : tnF E = T at *
  simp [e_fnP, isT, nD, m4, lt2, it, zE, c, zB, al, sq, zI, dd, lI, -d_lenT, -d_all]
section
variable {m : Nat} {r : RuleT} {E : List Nat}
theorem anew_turnT (ro : RuleOk m r) (pm : E.Perm (List.range m)) {rd : List Int} (hr : IsSt r.1.length rd) {T : List D} (hT : T.length ≤ 100) :
    turnF (tmName 6) C.b_rule_anew_1 [6, 7] (ti rd) [some (dRule r), some (plD E), some (ti r.1), some (ti r.2), some (.lst ((NE r E).map D.int)), some (.lst T), none, none, none] = .ok (.nx, [some (dRule r), some (plD E), some (ti r.1), some (ti r.2), some (.lst ((NE r E).map D.int)), some (.lst (T ++ [.int (anV r E rd)])), none, none, none]) := by
  have r4 := ro.len
  have hl := hr.len
  have dz := dictZ_I (N := NE r E) (rd := rd) (by rw [NE_len, hl]) (NE_nd ro pm) (by rw [NE_len]; omega) (.inl rfl)
  have c := comp_map (tm := tmName 8) (t := cYes) (e := C.e_rule_anew_2) (vs := [8]) (ws := []) (ρ := [some (dRule r), some (plD E), some (ti r.1), some (ti r.2), some (.lst ((NE r E).map D.int)), some (.lst T), some (ti rd), some (.dik (kt (NE r E)) (rd.map D.int)), none]) D.int (fun e => D.int (lkI (NE r E) rd (plE E e))) r.1 fun e he => by
    have g1 := get_plE ro pm he
    have g2 := get_N (N := NE r E) (rd := rd) (by rw [NE_len, hl]) (NE_mem he)
    simp only [turnC, C.e_rule_anew_2]
    generalize lkI (NE r E) rd (plE E e) = v at *
    generalize plE E e = pe at *
    generalize D.dik (kt (NE r E)) (rd.map D.int) = BD at *
    generalize plD E = PD at *
    generalize (NE r E).map D.int = NL at *
    show (tmName 8 _ _).nox >>= _ = _
    generalize dRule r = DR at *
    generalize ti r.1 = T1 at *
    generalize ti r.2 = T2 at *
    generalize ti rd = RD at *
    simp [e_dget, g1, g2]
  have e3 : (r.1.map fun e => D.int (lkI (NE r E) rd (plE E e))) = ((PE r E).map (lkI (NE r E) rd)).map D.int := by unfold PE; rw [List.map_map, List.map_map]; rfl
  rw [e3] at c
  have hb : ∀ x ∈ (PE r E).map (lkI (NE r E) rd), 0 ≤ x ∧ x < 2 := fun x hx => by
    obtain ⟨k, _, rfl⟩ := List.mem_map.mp hx
    exact lkI_bit hr.bit
  have pl := placeI_lt hb
  rw [List.length_map, PE_len] at pl
  have po := place_of_lst (xs := (PE r E).map (lkI (NE r E) rd)) (by rw [List.length_map, PE_len]; omega)
  have ax := atI_mapI (xs := r.2) pl.1 (by rw [ro.tab]; exact_mod_cast pl.2)
  have ix : ixD (ti r.2) (.int (placeI ((PE r E).map (lkI (NE r E) rd)))) = .ok (.int (anV r E rd)) := by
    show (match atI (r.2.map D.int) _ with | some d => Y.R.ok d | none => Y.R.stk) = _
    rw [ax]; rfl
  have itE : itD (ti r.1) = .ok (r.1.map D.int) := rfl
  have zE : szOk (r.1.map D.int).length = true := szOk_of (by rw [List.length_map]; omega)
  have zV : szOk (((PE r E).map (lkI (NE r E) rd)).map D.int).length = true := szOk_of (by rw [List.length_map, List.length_map, PE_len]; omega)
  have zT : szOk (T.length + 1) = true := szOk_of (by omega)
  simp only [turnF, C.b_rule_anew_1]
  show (tmName 6 _ _).nox >>= _ = _
  generalize anV r E rd = v at *
  generalize placeI ((PE r E).map (lkI (NE r E) rd)) = pv at *
  generalize ((PE r E).map (lkI (NE r E) rd)).map D.int = VD at *
  generalize C.e_rule_anew_2 = E2 at *
  generalize D.dik (kt (NE r E)) (rd.map D.int) = BD at *
  generalize plD E = PD at *
  generalize (NE r E).map D.int = NL at *
  generalize dRule r = DR at *
  generalize r.1.map D.int = L1 at *
  generalize ti r.1 = T1 at *
  generalize ti r.2 = T2 at *
  generalize ti rd = RD at *
  simp [dz, itE, zE, c, po, ix, zT, zV]
theorem anew_loopT (ro : RuleOk m r) (pm : E.Perm (List.range m)) : ∀ (L : List (List Int)) (T : List D), (∀ rd ∈ L, IsSt r.1.length rd) → T.length + L.length ≤ 50 →
    forL (tmName 6) C.b_rule_anew_1 [6, 7] [] (L.map ti) [some (dRule r), some (plD E), some (ti r.1), some (ti r.2), some (.lst ((NE r E).map D.int)), some (.lst T), none, none, none] = .ok (.nx, [some (dRule r), some (plD E), some (ti r.1), some (ti r.2), some (.lst ((NE r E).map D.int)), some (.lst (T ++ (L.map (anV r E)).map D.int)), none, none, none])
  | [], T, _, _ => by rw [List.map_nil, List.map_nil, List.map_nil, List.append_nil]; rfl
  | rd :: L, T, hL, hT => by
    rw [List.length_cons] at hT
    have t := anew_turnT ro pm (hL rd (by simp)) (T := T) (by omega)
    refine for_cons t (fun _ z => by cases z) ((anew_loopT ro pm L _ (fun x hx => hL x (by simp [hx])) (by simp; omega)).trans ?_)
    rw [List.map_cons, List.map_cons, List.append_assoc]
    rfl
theorem rule_anewF_okT (ro : RuleOk m r) (pm : E.Perm (List.range m)) : C.g_rule_anew [dRule r, plD E] = .ok (.fr (dRule (anR r E))) := by
  have r4 := ro.len
  have sl := stands_len r.1.length
  have p4 : 2 ^ r.1.length ≤ 2 ^ 4 := Nat.pow_le_pow_right (by omega) r4
  have lp := anew_loopT ro pm (stands r.1.length) [] (fun rd h => stands_st h) (by simp; omega)
  rw [List.nil_append] at lp
  have c1 := comp_map (tm := tmName 8) (t := cYes) (e := C.e_rule_anew_1) (vs := [8]) (ws := []) (ρ := [some (dRule r), some (plD E), some (ti r.1), some (ti r.2), none, none, none, none, none]) D.int (fun e => D.int (plE E e)) r.1 fun e he => by
    have g1 := get_plE ro pm he
    simp only [turnC, C.e_rule_anew_1]
    generalize plD E = PD at *
    generalize plE E e = pe at *
    show (tmName 8 _ _).nox >>= _ = _
    generalize dRule r = DR at *
    generalize ti r.1 = T1 at *
    generalize ti r.2 = T2 at *
    simp [e_dget, g1]
  have e3 : (r.1.map fun e => D.int (plE E e)) = (PE r E).map D.int := by unfold PE; rw [List.map_map]; rfl
  rw [e3] at c1
  have so : sortD [.lst ((PE r E).map D.int)] = .ok (.lst ((NE r E).map D.int)) := d_sortN
  have itE : itD (ti r.1) = .ok (r.1.map D.int) := rfl
  have zE : szOk (r.1.map D.int).length = true := szOk_of (by rw [List.length_map]; omega)
  have zP : szOk ((PE r E).map D.int).length = true := szOk_of (by rw [List.length_map, PE_len]; omega)
  have zN : szOk ((NE r E).map D.int).length = true := szOk_of (by rw [List.length_map, NE_len]; omega)
  have lE : lenD [ti r.1] = .ok (.int r.1.length) := by
    show R.ok (D.int ((r.1.map D.int).length : Nat)) = _
    rw [List.length_map]
  have so2 : C.g_stands_of [.int r.1.length] = .ok (.vl (.lst ((stands r.1.length).map ti))) := stands_of_ok (by omega)
  have zS : szOk ((stands r.1.length).map ti).length = true := szOk_of (by rw [List.length_map, sl]; omega)
  have zV : szOk (((stands r.1.length).map (anV r E)).map D.int).length = true := szOk_of (by rw [List.length_map, List.length_map]; omega)
  have tN : tupleD [.lst ((NE r E).map D.int)] = .ok (ti (NE r E)) := rfl
  have tV : tupleD [.lst (((stands r.1.length).map (anV r E)).map D.int)] = .ok (ti ((stands r.1.length).map (anV r E))) := rfl
  have n1 : (ti (NE r E)).nl = true := nls_map fun _ _ => rfl
  have n2 : (ti ((stands r.1.length).map (anV r E))).nl = true := nls_map fun _ _ => rfl
  have nn1 : nls ((NE r E).map D.int) = true := nls_map fun _ _ => rfl
  have nn2 : nls (((stands r.1.length).map (anV r E)).map D.int) = true := nls_map fun _ _ => rfl
  show C.g_rule_anew [.tup [ti r.1, ti r.2], plD E] = R.ok (Hd.fr (.tup [ti (NE r E), ti ((stands r.1.length).map (anV r E))]))
  have lp : forL (tmName 6) C.b_rule_anew_1 [6, 7] [] ((stands r.1.length).map ti) [some (.tup [ti r.1, ti r.2]), some (plD E), some (ti r.1), some (ti r.2), some (.lst ((NE r E).map D.int)), some (.lst []), none, none, none] = .ok (.nx, [some (.tup [ti r.1, ti r.2]), some (plD E), some (ti r.1), some (ti r.2), some (.lst ((NE r E).map D.int)), some (.lst (((stands r.1.length).map (anV r E)).map D.int)), none, none, none]) := lp
  have c1 : cCompL _ _ _ _ _ _ [some (.tup [ti r.1, ti r.2]), some (plD E), some (ti r.1), some (ti r.2), none, none, none, none, none] = R.ok (_, [some (.tup [ti r.1, ti r.2]), some (plD E), some (ti r.1), some (ti r.2), none, none, none, none, none]) := c1
  simp only [C.g_rule_anew, C.m_rule_anew]
  generalize hTV : ti ((stands r.1.length).map (anV r E)) = TV at *
  generalize ((stands r.1.length).map (anV r E)).map D.int = VD at *
  generalize hTN : ti (NE r E) = TN at *
  generalize (NE r E).map D.int = ND at *
  generalize (PE r E).map D.int = FD at *
  generalize (stands r.1.length).map ti = SD at *
  generalize (r.1.length : Int) = LR at *
  generalize C.e_rule_anew_1 = E1 at *
  generalize C.b_rule_anew_1 = B1 at *
  generalize plD E = PD at *
  generalize ti r.1 = T1 at *
  generalize ti r.2 = T2 at *
  generalize r.1.map D.int = L1 at *
  simp [e_fnP, itE, zE, c1, zP, so, lE, so2, zS, lp, tN, tV, zN, zV, n1, n2, nn1, nn2, shAt, chkO_ws, szOk_of, -d_lenT]
end
section
variable {ns : List RuleT} {most : Nat} {E : List Nat}
theorem namedF_ok (ok : NetOk ns most) (hm : most ≤ 100) (pm : E.Perm (List.range ns.length)) : C.g_named_anew_2 [dNetF ns, tnF E] = .ok (.fr (dNet (anN ns E))) := by
  have hn := Nat.le_trans ok.le hm
  have el : E.length = ns.length := by have := pm.length_eq; rwa [List.length_range] at this
  have nd : E.Nodup := pm.nodup_iff.mpr List.nodup_range
  have lt : ∀ x ∈ E, x < ns.length := fun x hx => List.mem_range.mp (pm.mem_iff.mp hx)
  have io := is_order96_okF pm hn
  have nm : numD (E.map fun k : Nat => D.int (k : Nat)) = ((List.range E.length).zip E).map fun p => D.tup [.int (p.1 : Nat), .int (p.2 : Nat)] := numD_map
  have lz : ((List.range E.length).zip E).length = E.length := by rw [List.length_zip, List.length_range, Nat.min_self]
  have lp := for_idx (tm := tmTup [3, 4]) (body := C.b_named_anew_2_1) (vs := [3]) (ws := []) (fun p : Nat × Nat => D.tup [.int (p.1 : Nat), .int (p.2 : Nat)]) ((List.range E.length).zip E) (fun i => [some (dNetF ns), some (tnF E), some (plI E i), none, lastE E i]) fun i hi => by
    have hi2 : i < E.length := by rw [lz] at hi; exact hi
    refine ⟨by simp, ?_⟩
    rw [List.getElem_zip, List.getElem_range]
    have eg : E.getD i 0 = E[i] := by rw [List.getD_eq_getElem?_getD, List.getElem?_eq_getElem hi2]; rfl
    have ix := idx_at hi2 nd
    have nt : E[i] ∉ E.take i := fun z => by
      obtain ⟨j, hj, e⟩ := List.mem_take_iff_getElem.mp z
      have := (List.getElem_inj nd).mp e
      omega
    have p : putDic (plI E i) (.int (E[i] : Nat)) (.int (i : Nat)) = .ok (plI E (i + 1)) := by
      obtain ⟨e1, e2⟩ := put_new (ks := E.take i) (k := E[i]) nt (ds := (E.take i).map fun k => D.int (E.idxOf k : Nat)) (d := .int (i : Nat))
      show (if szOk (((E.take i).map fun k : Nat => (Sum.inl (k : Int) : Key)).length + 1) = true then R.ok (D.dik (putKs _ (Sum.inl (E[i] : Int))) (putDs _ _ (Sum.inl (E[i] : Int)) _)) else .stk) = _
      rw [if_pos (szOk_of (by rw [List.length_map, List.length_take]; omega)), e1, e2]
      unfold plI
      rw [List.take_succ_eq_append_getElem hi2, List.map_append, List.map_append]
      rw [List.map_singleton, List.map_singleton, ix]
    obtain ⟨KS, DS, ew⟩ : ∃ KS DS, plI E i = .dik KS DS := ⟨_, _, rfl⟩
    rw [ew] at p ⊢
    show _ = R.ok (Fl.nx, [_, _, _, none, some (D.int (E.getD i 0 : Nat))])
    rw [eg]
    generalize E[i] = k at *
    generalize plI E (i + 1) = W2 at *
    generalize lastE E i = x4 at *
    have p : (if szOk (KS.length + 1) = true then Y.R.ok (D.dik (putKs KS (Sum.inl (k : Int))) (putDs KS DS (Sum.inl (k : Int)) (.int (i : Nat)))) else Y.R.stk) = Y.R.ok W2 := p
    simp only [turnF, C.b_named_anew_2_1]
    generalize dNetF ns = N at *
    generalize tnF E = T at *
    simp [p]
  rw [lz, ← nm] at lp
  have ep : plI E E.length = plD E := by unfold plI plD; rw [List.take_length]
  rw [ep] at lp
  have c := comp_map (tm := tmName 4) (t := cYes) (e := C.e_named_anew_2_1) (vs := [4]) (ws := []) (ρ := [some (dNetF ns), some (tnF E), some (plD E), none, none]) (fun k : Nat => D.int (k : Nat)) (fun k => dRule (anR (ns.getD k ([], [])) E)) E fun k hk => by
    have kn := lt k hk
    have e := rule_anewF_ok (net_rule ok kn) pm
    have ix : ixD (dNetF ns) (.int (k : Nat)) = .ok (dRuleF (ns.getD k ([], []))) := by
      show (match atI (ns.map dRuleF) ((k : Nat) : Int) with | some d => Y.R.ok d | none => Y.R.stk) = _
      rw [netF_at kn]
    have nR : (dRule (anR (ns.getD k ([], [])) E)).nl = true := by simp [dRule]
    have e : C.g_rule_anew [dRuleF (ns.getD k ([], [])), .dik (E.map fun k : Nat => (Sum.inl (k : Int) : Key)) (E.map fun k => D.int (E.idxOf k : Nat))] = _ := e
    show turnC _ _ _ _ _ [some (dNetF ns), some (tnF E), some (.dik (E.map fun k : Nat => (Sum.inl (k : Int) : Key)) (E.map fun k => D.int (E.idxOf k : Nat))), none, none] = R.ok (_, [some (dNetF ns), some (tnF E), some (.dik (E.map fun k : Nat => (Sum.inl (k : Int) : Key)) (E.map fun k => D.int (E.idxOf k : Nat))), none, none])
    simp only [turnC, C.e_named_anew_2_1]
    generalize E.map (fun k : Nat => (Sum.inl (k : Int) : Key)) = KS at *
    generalize E.map (fun k => D.int (E.idxOf k : Nat)) = DS at *
    generalize dRule (anR (ns.getD k ([], [])) E) = DR' at *
    generalize dRuleF (ns.getD k ([], [])) = DR at *
    generalize dNetF ns = N at *
    generalize tnF E = T at *
    simp [ix, e, nR]
  have e4 : (E.map fun k => dRule (anR (ns.getD k ([], [])) E)) = (anN ns E).map dRule := by unfold anN; rw [List.map_map]; rfl
  rw [e4] at c
  have yle := ok.le
  have ypos := ok.pos
  have al : (anN ns E).length = ns.length := by unfold anN; rw [List.length_map, el]
  have lN : lenD [dNetF ns] = .ok (.int ns.length) := by rw [d_lenT, List.length_map]
  have it : itD (tnF E) = .ok (E.map fun k : Nat => D.int (k : Nat)) := rfl
  have zE : szOk (E.map fun k : Nat => D.int (k : Nat)).length = true := szOk_of (by rw [List.length_map]; omega)
  have zN : szOk (numD (E.map fun k : Nat => D.int (k : Nat))).length = true := by rw [nm, List.length_map, lz]; exact szOk_of (by omega)
  have zY : szOk ((anN ns E).map dRule).length = true := szOk_of (by rw [List.length_map]; omega)
  have tY : tupleD [.lst ((anN ns E).map dRule)] = .ok (.tup ((anN ns E).map dRule)) := rfl
  show _ = R.ok (Hd.fr (.tup ((anN ns E).map dRule)))
  have lp : forL (tmTup [3, 4]) C.b_named_anew_2_1 [3] [] (numD (E.map fun k : Nat => D.int (k : Nat))) [some (dNetF ns), some (tnF E), some (.dik [] []), none, none] = .ok (.nx, [some (dNetF ns), some (tnF E), some (plD E), none, lastE E E.length]) := lp
  have nY : nls ((anN ns E).map dRule) = true := nls_map fun r _ => by simp [dRule]
  simp only [C.g_named_anew_2, C.m_named_anew_2]
  generalize (anN ns E).map dRule = YD at *
  generalize E.map (fun k : Nat => D.int (k : Nat)) = ED at *
  generalize C.b_named_anew_2_1 = B1 at *
  generalize C.e_named_anew_2_1 = E1 at *
  generalize lastE E E.length = x4 at *
  generalize plD E = PD at *
  generalize hT : tnF E = T at *
  generalize hN : dNetF ns = N at *
  simp [e_fnP, io, lN, it, zE, zN, lp, c, zY, tY, shAt, chkO_ws, szOk_of, -d_lenT]
theorem namedT_ok (ok : NetOk ns most) (hm : most ≤ 100) (pm : E.Perm (List.range ns.length)) : C.g_named_anew_2 [dNet ns, tnF E] = .ok (.fr (dNet (anN ns E))) := by
  have hn := Nat.le_trans ok.le hm
  have el : E.length = ns.length := by have := pm.length_eq; rwa [List.length_range] at this
  have nd : E.Nodup := pm.nodup_iff.mpr List.nodup_range
  have lt : ∀ x ∈ E, x < ns.length := fun x hx => List.mem_range.mp (pm.mem_iff.mp hx)
  have io := is_order96_okF pm hn
  have nm : numD (E.map fun k : Nat => D.int (k : Nat)) = ((List.range E.length).zip E).map fun p => D.tup [.int (p.1 : Nat), .int (p.2 : Nat)] := numD_map
  have lz : ((List.range E.length).zip E).length = E.length := by rw [List.length_zip, List.length_range, Nat.min_self]
  have lp := for_idx (tm := tmTup [3, 4]) (body := C.b_named_anew_2_1) (vs := [3]) (ws := []) (fun p : Nat × Nat => D.tup [.int (p.1 : Nat), .int (p.2 : Nat)]) ((List.range E.length).zip E) (fun i => [some (dNet ns), some (tnF E), some (plI E i), none, lastE E i]) fun i hi => by
    have hi2 : i < E.length := by rw [lz] at hi; exact hi
    refine ⟨by simp, ?_⟩
    rw [List.getElem_zip, List.getElem_range]
    have eg : E.getD i 0 = E[i] := by rw [List.getD_eq_getElem?_getD, List.getElem?_eq_getElem hi2]; rfl
    have ix := idx_at hi2 nd
    have nt : E[i] ∉ E.take i := fun z => by
      obtain ⟨j, hj, e⟩ := List.mem_take_iff_getElem.mp z
      have := (List.getElem_inj nd).mp e
      omega
    have p : putDic (plI E i) (.int (E[i] : Nat)) (.int (i : Nat)) = .ok (plI E (i + 1)) := by
      obtain ⟨e1, e2⟩ := put_new (ks := E.take i) (k := E[i]) nt (ds := (E.take i).map fun k => D.int (E.idxOf k : Nat)) (d := .int (i : Nat))
      show (if szOk (((E.take i).map fun k : Nat => (Sum.inl (k : Int) : Key)).length + 1) = true then R.ok (D.dik (putKs _ (Sum.inl (E[i] : Int))) (putDs _ _ (Sum.inl (E[i] : Int)) _)) else .stk) = _
      rw [if_pos (szOk_of (by rw [List.length_map, List.length_take]; omega)), e1, e2]
      unfold plI
      rw [List.take_succ_eq_append_getElem hi2, List.map_append, List.map_append]
      rw [List.map_singleton, List.map_singleton, ix]
    obtain ⟨KS, DS, ew⟩ : ∃ KS DS, plI E i = .dik KS DS := ⟨_, _, rfl⟩
    rw [ew] at p ⊢
    show _ = R.ok (Fl.nx, [_, _, _, none, some (D.int (E.getD i 0 : Nat))])
    rw [eg]
    generalize E[i] = k at *
    generalize plI E (i + 1) = W2 at *
    generalize lastE E i = x4 at *
    have p : (if szOk (KS.length + 1) = true then Y.R.ok (D.dik (putKs KS (Sum.inl (k : Int))) (putDs KS DS (Sum.inl (k : Int)) (.int (i : Nat)))) else Y.R.stk) = Y.R.ok W2 := p
    simp only [turnF, C.b_named_anew_2_1]
    generalize dNet ns = N at *
    generalize tnF E = T at *
    simp [p]
  rw [lz, ← nm] at lp
  have ep : plI E E.length = plD E := by unfold plI plD; rw [List.take_length]
  rw [ep] at lp
  have c := comp_map (tm := tmName 4) (t := cYes) (e := C.e_named_anew_2_1) (vs := [4]) (ws := []) (ρ := [some (dNet ns), some (tnF E), some (plD E), none, none]) (fun k : Nat => D.int (k : Nat)) (fun k => dRule (anR (ns.getD k ([], [])) E)) E fun k hk => by
    have kn := lt k hk
    have e := rule_anewF_okT (net_rule ok kn) pm
    have ix : ixD (dNet ns) (.int (k : Nat)) = .ok (dRule (ns.getD k ([], []))) := by
      show (match atI (ns.map dRule) ((k : Nat) : Int) with | some d => Y.R.ok d | none => Y.R.stk) = _
      rw [net_at kn]
    have nR : (dRule (anR (ns.getD k ([], [])) E)).nl = true := by simp [dRule]
    have e : C.g_rule_anew [dRule (ns.getD k ([], [])), .dik (E.map fun k : Nat => (Sum.inl (k : Int) : Key)) (E.map fun k => D.int (E.idxOf k : Nat))] = _ := e
    show turnC _ _ _ _ _ [some (dNet ns), some (tnF E), some (.dik (E.map fun k : Nat => (Sum.inl (k : Int) : Key)) (E.map fun k => D.int (E.idxOf k : Nat))), none, none] = R.ok (_, [some (dNet ns), some (tnF E), some (.dik (E.map fun k : Nat => (Sum.inl (k : Int) : Key)) (E.map fun k => D.int (E.idxOf k : Nat))), none, none])
    simp only [turnC, C.e_named_anew_2_1]
    generalize E.map (fun k : Nat => (Sum.inl (k : Int) : Key)) = KS at *
    generalize E.map (fun k => D.int (E.idxOf k : Nat)) = DS at *
    generalize dRule (anR (ns.getD k ([], [])) E) = DR' at *
    generalize dRule (ns.getD k ([], [])) = DR at *
    generalize dNet ns = N at *
    generalize tnF E = T at *
    simp [ix, e, nR]
  have e4 : (E.map fun k => dRule (anR (ns.getD k ([], [])) E)) = (anN ns E).map dRule := by unfold anN; rw [List.map_map]; rfl
  rw [e4] at c
  have yle := ok.le
  have ypos := ok.pos
  have al : (anN ns E).length = ns.length := by unfold anN; rw [List.length_map, el]
  have lN : lenD [dNet ns] = .ok (.int ns.length) := by rw [d_lenT, List.length_map]
  have it : itD (tnF E) = .ok (E.map fun k : Nat => D.int (k : Nat)) := rfl
  have zE : szOk (E.map fun k : Nat => D.int (k : Nat)).length = true := szOk_of (by rw [List.length_map]; omega)
  have zN : szOk (numD (E.map fun k : Nat => D.int (k : Nat))).length = true := by rw [nm, List.length_map, lz]; exact szOk_of (by omega)
  have zY : szOk ((anN ns E).map dRule).length = true := szOk_of (by rw [List.length_map]; omega)
  have tY : tupleD [.lst ((anN ns E).map dRule)] = .ok (.tup ((anN ns E).map dRule)) := rfl
  show _ = R.ok (Hd.fr (.tup ((anN ns E).map dRule)))
  have lp : forL (tmTup [3, 4]) C.b_named_anew_2_1 [3] [] (numD (E.map fun k : Nat => D.int (k : Nat))) [some (dNet ns), some (tnF E), some (.dik [] []), none, none] = .ok (.nx, [some (dNet ns), some (tnF E), some (plD E), none, lastE E E.length]) := lp
  have nY : nls ((anN ns E).map dRule) = true := nls_map fun r _ => by simp [dRule]
  simp only [C.g_named_anew_2, C.m_named_anew_2]
  generalize (anN ns E).map dRule = YD at *
  generalize E.map (fun k : Nat => D.int (k : Nat)) = ED at *
  generalize C.b_named_anew_2_1 = B1 at *
  generalize C.e_named_anew_2_1 = E1 at *
  generalize lastE E E.length = x4 at *
  generalize plD E = PD at *
  generalize hT : tnF E = T at *
  generalize hN : dNet ns = N at *
  simp [e_fnP, io, lN, it, zE, zN, lp, c, zY, tY, shAt, chkO_ws, szOk_of, -d_lenT]
end
end H

set_option Elab.async false
set_option linter.all false
set_option maxRecDepth 100000
namespace H
open PySem PySem.Spec PyProof.Rows L2 Y
section
variable {ns : List RuleT} {most m k j : Nat} {st x y : List Int}
theorem wrong_nil : wrongI ns x = [] ↔ ∀ k, k < ns.length → oughtI ns x k = x.getD k 0 := by
  constructor
  · exact fun h k hk => rest_ought h hk
  · intro h
    unfold wrongI
    rw [List.filter_eq_nil_iff]
    intro k hk
    rw [decide_eq_true (h k (List.mem_range.mp hk))]
    simp
theorem rests_pw : (restsI ns).Pairwise fun a b => ltL a b = true := (stands_lt _).sublist List.filter_sublist
theorem rests_nd : (restsI ns).Nodup := List.filter_sublist.nodup (stands_nodup _)
theorem rests_sort {X : List (List Int)} (nd : X.Nodup) (h : ∀ x, x ∈ X ↔ x ∈ restsI ns) : sortL X = restsI ns :=
  (sortL_of ((List.perm_ext_iff_of_nodup rests_nd nd).mpr fun x => (h x).symm) (rests_pw.imp fun h => ltL_asym h)).symm
theorem slim_rests (ok : NetOk ns most) : restsI (ns.map slimR) = restsI ns := by
  unfold restsI
  rw [List.length_map]
  refine List.filter_congr fun st hs => ?_
  have hs := mem_stands.mp hs
  rw [Bool.eq_iff_iff, List.isEmpty_iff, List.isEmpty_iff, wrong_nil, wrong_nil, List.length_map]
  exact ⟨fun h k hk => by rw [← h k hk, slim_ought ok hk hs], fun h k hk => by rw [slim_ought ok hk hs, h k hk]⟩
theorem flip_flip59 (hx : IsSt m x) (hk : k < m) : flipI (flipI x k) k = x := by
  have f := flip_st hx hk
  have f2 := flip_st f hk
  refine ext_getD (by rw [f2.len, hx.len]) fun i _ => ?_
  rw [flip_getD f.len hk, flip_getD hx.len hk, flip_getD hx.len hk]
  by_cases c : i = k
  · subst c; simp; omega
  · simp [c]
theorem flp_rest (ok : NetOk ns most) (hk : k < ns.length) (hx : IsSt ns.length x) : wrongI (flpN ns k) x = [] ↔ wrongI ns (flipI x k) = [] := by
  rw [wrong_nil, wrong_nil, flpN_len]
  constructor
  · intro h j hj
    have := h j hj
    rw [flp_ought ok hk hj hx] at this
    rw [flip_getD hx.len hk]
    by_cases c : j = k
    · rw [if_pos c] at this ⊢; rw [c] at this ⊢; omega
    · rw [if_neg c] at this ⊢; exact this
  · intro h j hj
    have := h j hj
    rw [flip_getD hx.len hk] at this
    rw [flp_ought ok hk hj hx]
    by_cases c : j = k
    · rw [if_pos c] at this ⊢; rw [c] at this ⊢; omega
    · rw [if_neg c] at this ⊢; exact this
theorem flp_rests (ok : NetOk ns most) (hk : k < ns.length) : sortL ((restsI ns).map fun st => flipI st k) = restsI (flpN ns k) := by
  refine rests_sort ?_ fun x => ?_
  · rw [List.nodup_iff_pairwise_ne, List.pairwise_map]
    refine List.Pairwise.imp_of_mem (fun {a b} ha hb h z => h ?_) (List.nodup_iff_pairwise_ne.mp rests_nd)
    rw [← flip_flip59 (mem_restsI.mp ha).1 hk, z, flip_flip59 (mem_restsI.mp hb).1 hk]
  · rw [List.mem_map, mem_restsI, flpN_len]
    constructor
    · rintro ⟨a, ha, rfl⟩
      obtain ⟨h1, h2⟩ := mem_restsI.mp ha
      have f := flip_st h1 hk
      exact ⟨f, (flp_rest ok hk f).mpr (by rw [flip_flip59 h1 hk]; exact h2)⟩
    · rintro ⟨h1, h2⟩
      exact ⟨flipI x k, mem_restsI.mpr ⟨flip_st h1 hk, (flp_rest ok hk h1).mp h2⟩, flip_flip59 h1 hk⟩
theorem flpQ_flpQ (ok : NetOk ns most) (hk : k < ns.length) (hj : j < ns.length) : flpQ (flpN ns k) k j = ns.getD j ([], []) := by
  have rj := net_rule ok hj
  unfold flpQ
  rw [flpN_at hj]
  have e1 : (flpQ ns k j).1 = (ns.getD j ([], [])).1 := rfl
  rw [e1]
  have tab := tab_tol rj.lk
  refine Prod.ext rfl ?_
  show (stands _).map _ = _
  conv => rhs; rw [tab]
  refine List.map_congr_left fun rd hrd => ?_
  have hr := mem_stands.mp hrd
  have fs := flS_st (k := k) rj hr
  have es : ∀ rd, flS (flpQ ns k j) k rd = flS (ns.getD j ([], [])) k rd := fun _ => rfl
  have et : tolI (flpQ ns k j) (flS (ns.getD j ([], [])) k rd) = flV (ns.getD j ([], [])) k (decide (j = k)) (flS (ns.getD j ([], [])) k rd) := tol_map fs
  have ff : flS (ns.getD j ([], [])) k (flS (ns.getD j ([], [])) k rd) = rd := by
    unfold flS
    by_cases c : (k : Int) ∈ (ns.getD j ([], [])).1
    · rw [if_pos c, if_pos c]
      exact flip_flip59 hr (List.idxOf_lt_length_of_mem c)
    · rw [if_neg c, if_neg c]
  show (if decide (j = k) = true then 1 - tolI (flpQ ns k j) (flS (flpQ ns k j) k rd) else tolI (flpQ ns k j) (flS (flpQ ns k j) k rd)) = _
  rw [es, et]
  unfold flV
  rw [ff]
  split <;> omega
theorem flp_flp (ok : NetOk ns most) (hk : k < ns.length) : flpN (flpN ns k) k = ns := by
  have e : flpN (flpN ns k) k = (List.range ns.length).map (flpQ (flpN ns k) k) := by
    conv => lhs; unfold flpN
    rw [show (List.map (flpQ ns k) (List.range ns.length)).length = ns.length by rw [List.length_map, List.length_range]]
    rfl
  rw [e]
  conv => rhs; rw [← range_getD (d := ([], [])) (xs := ns) rfl]
  exact List.map_congr_left fun j hj => flpQ_flpQ ok hk (List.mem_range.mp hj)
def delI (x : List Int) (k : Nat) : List Int := x.take k ++ x.drop (k + 1)
theorem del_ins {b : Int} (h : k ≤ st.length) : delI (insI st k b) k = st := by
  unfold delI insI
  rw [List.take_left' (by rw [List.length_take]; omega), List.drop_append, List.length_take, Nat.min_eq_left h]
  have : (st.take k).drop (k + 1) = [] := List.drop_eq_nil_of_le (by rw [List.length_take]; omega)
  rw [this, show k + 1 - k = 1 by omega]
  show st.take k ++ ([] ++ st.drop k) = st
  rw [List.nil_append, List.take_append_drop]
theorem ins_del (hk : k < x.length) : insI (delI x k) k (x.getD k 0) = x := by
  unfold insI delI
  have l : (x.take k).length = k := by rw [List.length_take]; omega
  rw [List.take_left' l, List.drop_left' l, getD_lt hk, ← List.drop_eq_getElem_cons hk, List.take_append_drop]
theorem del_st (hx : IsSt m x) (hk : k < m) : IsSt (m - 1) (delI x k) := ⟨by unfold delI; rw [List.length_append, List.length_take, List.length_drop, hx.len]; omega, fun b hb => by
  unfold delI at hb
  rcases List.mem_append.mp hb with h | h
  · exact hx.bit b (List.mem_of_mem_take h)
  · exact hx.bit b (List.mem_of_mem_drop h)⟩
theorem ins_here {b : Int} (h : k ≤ st.length) : (insI st k b).getD k 0 = b := by
  unfold insI
  rw [List.getD_eq_getElem?_getD, List.getElem?_append_right (by rw [List.length_take]; omega), List.length_take, Nat.min_eq_left h, Nat.sub_self]
  rfl
abbrev ownB (ns : List RuleT) (k : Nat) (st : List Int) : Int := oughtI ns (insI st k 0) k
abbrev ledB (ns : List RuleT) (k : Nat) (st : List Int) : List Int := insI st k (ownB ns k st)
theorem own_any (ok : NetOk ns most) (hk : k < ns.length) (hn : (k : Int) ∉ (slimR (ns.getD k ([], []))).1) (hs : IsSt (ns.length - 1) st) {b : Int} (hb : 0 ≤ b ∧ b < 2) : oughtI ns (insI st k b) k = ownB ns k st := by
  have ro := slim_ok4 (net_rule ok hk)
  have hl : k ≤ st.length := by rw [hs.len]; omega
  have s0 : IsSt ns.length (insI st k 0) := insI_st hs hk ⟨by omega, by omega⟩
  have sb : IsSt ns.length (insI st k b) := insI_st hs hk hb
  show _ = oughtI ns (insI st k 0) k
  rw [ought_val, ought_val, ← slim_val ok hk s0, ← slim_val ok hk sb]
  refine valA_congr fun e he => ?_
  obtain ⟨h0, h1⟩ := ro.lt e he
  obtain ⟨i, rfl⟩ : ∃ i : Nat, e = i := ⟨e.toNat, by omega⟩
  have hi : i ≠ k := fun z => hn (z ▸ he)
  unfold atS
  rw [Int.toNat_natCast, insI_at hl hi, insI_at hl hi]
theorem ownB_bit (ok : NetOk ns most) (hk : k < ns.length) : 0 ≤ ownB ns k st ∧ ownB ns k st < 2 := getD_bit (net_rule ok hk).bit _
theorem slim_fn {r : RuleT} (hS : IsSt m x) : ruleFn (slimR r) x = ruleFn r x := by
  unfold ruleFn
  have h1 : IsSt (hpL r).length (rdE (slimR r) x) := by
    have := rd_st (r := slimR r) hS
    rwa [slim_len] at this
  rw [slim_tol h1]
  refine spread_any h1 (rd_st hS) fun q hq => ?_
  rw [rd_at (by rw [slim_len]; exact hq), slim_at hq, rd_at (hpL_lt (List.getElem_mem hq)).1]
theorem foldQ_fn (ok : NetOk ns most) (hk : k < ns.length) (hj : j < ns.length) (hn : (k : Int) ∉ (slimR (ns.getD k ([], []))).1) (hs : IsSt (ns.length - 1) st) : ruleFn (foldQ ns k j) st = oughtI ns (ledB ns k st) j := by
  have e : foldQ ns k j = slimR (shRf k (foldT (ns.getD j ([], [])) (slimR (ns.getD k ([], []))) k)) := slimR_map.symm
  rw [e, slim_fn hs, ← fold_bits ok hk hj hn hs]
  rfl
def skipQ (k i : Nat) : Nat := if i < k then i else i + 1
theorem othQ_eq (hk : k < ns.length) : othQ ns k = (List.range (ns.length - 1)).map (skipQ k) := by
  refine List.Perm.eq_of_pairwise (le := fun a b : Nat => a < b) (fun a b _ _ h1 h2 => by omega) (List.pairwise_lt_range.sublist List.filter_sublist) ?_ ((List.perm_ext_iff_of_nodup (List.filter_sublist.nodup List.nodup_range) ?_).mpr fun j => ?_)
  · rw [List.pairwise_map]
    exact List.pairwise_lt_range.imp fun {a b} h => by unfold skipQ; split <;> split <;> omega
  · rw [List.nodup_iff_pairwise_ne, List.pairwise_map]
    exact List.pairwise_lt_range.imp fun {a b} h => by unfold skipQ; split <;> split <;> omega
  · rw [show (List.range ns.length).filter (fun j => decide (j ≠ k)) = othQ ns k from rfl, othQ_mem, List.mem_map]
    constructor
    · rintro ⟨h1, h2⟩
      by_cases c : j < k
      · exact ⟨j, List.mem_range.mpr (by omega), by unfold skipQ; rw [if_pos c]⟩
      · exact ⟨j - 1, List.mem_range.mpr (by omega), by unfold skipQ; rw [if_neg (by omega)]; omega⟩
    · rintro ⟨i, hi, rfl⟩
      have := List.mem_range.mp hi
      unfold skipQ
      split <;> omega
theorem foldN_at (hk : k < ns.length) {i : Nat} (hi : i < ns.length - 1) : (foldN ns k).getD i ([], []) = foldQ ns k (skipQ k i) := by
  unfold foldN
  rw [othQ_eq hk, List.map_map, getD_mapL (by rw [List.length_range]; exact hi), List.getElem_range]
  rfl
theorem fold_rest (ok : NetOk ns most) (hk : k < ns.length) (hn : (k : Int) ∉ (slimR (ns.getD k ([], []))).1) (hs : IsSt (ns.length - 1) st) : wrongI (foldN ns k) st = [] ↔ wrongI ns (ledB ns k st) = [] := by
  have hl : k ≤ st.length := by rw [hs.len]; omega
  have q : ∀ i, i < ns.length - 1 → oughtI (foldN ns k) st i = oughtI ns (ledB ns k st) (skipQ k i) ∧ st.getD i 0 = (ledB ns k st).getD (skipQ k i) 0 := fun i hi => by
    have hj : skipQ k i < ns.length ∧ skipQ k i ≠ k := by unfold skipQ; split <;> omega
    refine ⟨?_, ?_⟩
    · rw [← foldQ_fn ok hk hj.1 hn hs, ought_tolR, foldN_at hk hi]; rfl
    · rw [insI_at hl hj.2]
      congr 1
      unfold skipQ
      split
      · rw [if_neg (by omega)]; rfl
      · rw [if_pos (by omega)]; rfl
  rw [wrong_nil, wrong_nil, foldN_len hk]
  constructor
  · intro h j hj
    by_cases c : j = k
    · subst c
      rw [own_any ok hj hn hs (ownB_bit ok hj), ins_here hl]
    · obtain ⟨i, hi, e⟩ : ∃ i, i < ns.length - 1 ∧ skipQ k i = j := by
        by_cases d : j < k
        · exact ⟨j, by omega, by unfold skipQ; rw [if_pos d]⟩
        · exact ⟨j - 1, by omega, by unfold skipQ; rw [if_neg (by omega)]; omega⟩
      obtain ⟨q1, q2⟩ := q i hi
      rw [e] at q1 q2
      rw [← q1, ← q2]
      exact h i hi
  · intro h i hi
    obtain ⟨q1, q2⟩ := q i hi
    have hj : skipQ k i < ns.length := by unfold skipQ; split <;> omega
    rw [q1, q2]
    exact h _ hj
theorem fold_rests (ok : NetOk ns most) (hk : k < ns.length) (hn : (k : Int) ∉ (slimR (ns.getD k ([], []))).1) : sortL ((restsI (foldN ns k)).map (ledB ns k)) = restsI ns := by
  have st1 : ∀ a, a ∈ restsI (foldN ns k) → IsSt (ns.length - 1) a ∧ wrongI (foldN ns k) a = [] := fun a ha => by
    have := mem_restsI.mp ha
    rwa [foldN_len hk] at this
  refine rests_sort ?_ fun x => ?_
  · rw [List.nodup_iff_pairwise_ne, List.pairwise_map]
    refine List.Pairwise.imp_of_mem (fun {a b} ha hb h z => h ?_) (List.nodup_iff_pairwise_ne.mp rests_nd)
    have ea := del_ins (st := a) (k := k) (b := ownB ns k a) (by rw [(st1 a ha).1.len]; omega)
    have eb := del_ins (st := b) (k := k) (b := ownB ns k b) (by rw [(st1 b hb).1.len]; omega)
    rw [← ea, ← eb]
    exact congrArg (fun s => delI s k) z
  · rw [List.mem_map, mem_restsI]
    constructor
    · rintro ⟨a, ha, rfl⟩
      obtain ⟨h1, h2⟩ := st1 a ha
      exact ⟨insI_st h1 hk (ownB_bit ok hk), (fold_rest ok hk hn h1).mp h2⟩
    · rintro ⟨h1, h2⟩
      have hd := del_st h1 hk
      have ex := ins_del (x := x) (k := k) (by rw [h1.len]; exact hk)
      have eo : ownB ns k (delI x k) = x.getD k 0 := by
        rw [← own_any ok hk hn hd (h1.get k), ex]
        exact rest_ought h2 hk
      have el : ledB ns k (delI x k) = x := by unfold ledB; rw [eo, ex]
      exact ⟨delI x k, mem_restsI.mpr ⟨by rw [foldN_len hk]; exact hd, (fold_rest ok hk hn hd).mpr (by rw [el]; exact h2)⟩, el⟩
end
end H

set_option Elab.async false
set_option linter.all false
set_option maxRecDepth 100000
namespace H
open PySem PySem.Spec PyProof.Rows L2 Y
section
variable {ns : List RuleT} {most m k j : Nat} {st x y : List Int} {r : RuleT} {E : List Nat}
/-- a stand in another order -/
def reoI (E : List Nat) (x : List Int) : List Int := E.map fun e => x.getD e 0
/-- the way back -/
def behE (E : List Nat) (m : Nat) : List Nat := (List.range m).map fun k => E.idxOf k
theorem beh_perm (pm : E.Perm (List.range m)) : (behE E m).Perm (List.range m) := by
  have el : E.length = m := by have := pm.length_eq; rwa [List.length_range] at this
  have nd : E.Nodup := pm.nodup_iff.mpr List.nodup_range
  refine (List.perm_ext_iff_of_nodup ?_ List.nodup_range).mpr fun i => ?_
  · unfold behE
    rw [List.nodup_iff_pairwise_ne, List.pairwise_map]
    refine List.Pairwise.imp_of_mem (fun {a b} ha hb h z => h ?_) (List.nodup_iff_pairwise_ne.mp List.nodup_range)
    have ha := pm.mem_iff.mpr ha
    have hb := pm.mem_iff.mpr hb
    have e1 := List.getElem_idxOf (List.idxOf_lt_length_of_mem ha)
    have e2 := List.getElem_idxOf (List.idxOf_lt_length_of_mem hb)
    rw [← e1, ← e2]
    simp only [z]
  · unfold behE
    rw [List.mem_map, List.mem_range]
    constructor
    · rintro ⟨k, hk, rfl⟩
      rw [← el]
      exact List.idxOf_lt_length_of_mem (pm.mem_iff.mpr hk)
    · intro hi
      have hi2 : i < E.length := by omega
      exact ⟨E[i], pm.mem_iff.mp (List.getElem_mem hi2), idx_at hi2 nd⟩
theorem beh_at (hk : k < m) : (behE E m).getD k 0 = E.idxOf k := by
  unfold behE
  rw [getD_mapL (by rw [List.length_range]; exact hk), List.getElem_range]
theorem E_at (pm : E.Perm (List.range m)) (hk : k < m) : E.getD (E.idxOf k) 0 = k ∧ E.idxOf k < m := by
  have el : E.length = m := by have := pm.length_eq; rwa [List.length_range] at this
  have hl := List.idxOf_lt_length_of_mem (pm.mem_iff.mpr (List.mem_range.mpr hk))
  exact ⟨by rw [getD_lt hl]; exact List.getElem_idxOf hl, by omega⟩
theorem E_lt (pm : E.Perm (List.range m)) {i : Nat} (hi : i < m) : E.getD i 0 < m ∧ E.idxOf (E.getD i 0) = i := by
  have el : E.length = m := by have := pm.length_eq; rwa [List.length_range] at this
  have nd : E.Nodup := pm.nodup_iff.mpr List.nodup_range
  have hi2 : i < E.length := by omega
  rw [getD_lt hi2]
  exact ⟨List.mem_range.mp (pm.mem_iff.mp (List.getElem_mem hi2)), idx_at hi2 nd⟩
theorem beh_idx (pm : E.Perm (List.range m)) {i : Nat} (hi : i < m) : (behE E m).idxOf i = E.getD i 0 := by
  obtain ⟨h1, h2⟩ := E_lt pm hi
  have nd : (behE E m).Nodup := (beh_perm pm).nodup_iff.mpr List.nodup_range
  have hl : E.getD i 0 < (behE E m).length := by unfold behE; rw [List.length_map, List.length_range]; exact h1
  have e : (behE E m)[E.getD i 0] = i := by
    have := beh_at (E := E) h1
    rw [getD_lt hl] at this
    rw [this, h2]
  have := idx_at hl nd
  rwa [e] at this
theorem reo_st (pm : E.Perm (List.range m)) (hx : IsSt m x) : IsSt m (reoI E x) := ⟨by unfold reoI; rw [List.length_map]; have := pm.length_eq; rwa [List.length_range] at this, fun b hb => by
  unfold reoI at hb
  obtain ⟨e, _, rfl⟩ := List.mem_map.mp hb
  exact hx.get e⟩
theorem reo_at (pm : E.Perm (List.range m)) {i : Nat} (hi : i < m) : (reoI E x).getD i 0 = x.getD (E.getD i 0) 0 := by
  have el : E.length = m := by have := pm.length_eq; rwa [List.length_range] at this
  unfold reoI
  rw [getD_mapL (by omega), getD_lt (xs := E) (by omega)]
theorem reo_beh (pm : E.Perm (List.range m)) (hx : IsSt m x) : reoI E (reoI (behE E m) x) = x := by
  have h1 := reo_st (beh_perm pm) hx
  refine ext_getD (by rw [(reo_st pm h1).len, hx.len]) fun i hi => ?_
  rw [(reo_st pm h1).len] at hi
  obtain ⟨a, b⟩ := E_lt pm hi
  rw [reo_at pm hi, reo_at (beh_perm pm) a, beh_at a, b]
theorem beh_reo (pm : E.Perm (List.range m)) (hx : IsSt m x) : reoI (behE E m) (reoI E x) = x := by
  have h1 := reo_st pm hx
  refine ext_getD (by rw [(reo_st (beh_perm pm) h1).len, hx.len]) fun i hi => ?_
  rw [(reo_st (beh_perm pm) h1).len] at hi
  obtain ⟨a, b⟩ := E_at pm hi
  rw [reo_at (beh_perm pm) hi, beh_at hi, reo_at pm b, a]
theorem anR_tol (ro : RuleOk m r) (pm : E.Perm (List.range m)) {a : Int → Int} (ha : ∀ e, 0 ≤ a e ∧ a e < 2) : tolI (anR r E) ((NE r E).map a) = tolI r (r.1.map fun e => a (plE E e)) := by
  have hs : IsSt r.1.length ((NE r E).map a) := ⟨by rw [List.length_map, NE_len], fun b hb => by
    obtain ⟨e, _, rfl⟩ := List.mem_map.mp hb
    exact ha e⟩
  have e1 : tolI (anR r E) ((NE r E).map a) = anV r E ((NE r E).map a) := by
    have q := stands_at hs
    show ((stands r.1.length).map (anV r E)).getD (placeI ((NE r E).map a)).toNat 0 = _
    rw [List.getD_eq_getElem?_getD, List.getElem?_map, q]
    rfl
  rw [e1]
  unfold anV PE
  rw [List.map_map]
  congr 1
  refine List.map_congr_left fun e he => ?_
  exact lkI_map (NE_mem he)
theorem anN_len (pm : E.Perm (List.range ns.length)) : (anN ns E).length = ns.length := by
  unfold anN
  rw [List.length_map]
  have := pm.length_eq
  rwa [List.length_range] at this
theorem anN_at (pm : E.Perm (List.range ns.length)) {i : Nat} (hi : i < ns.length) : (anN ns E).getD i ([], []) = anR (ns.getD (E.getD i 0) ([], [])) E := by
  have el : E.length = ns.length := by have := pm.length_eq; rwa [List.length_range] at this
  unfold anN
  rw [getD_mapL (by omega), getD_lt (xs := E) (by omega)]
theorem an_ought (ok : NetOk ns most) (pm : E.Perm (List.range ns.length)) (hx : IsSt ns.length x) {i : Nat} (hi : i < ns.length) : oughtI (anN ns E) (reoI E x) i = oughtI ns x (E.getD i 0) := by
  obtain ⟨h1, h2⟩ := E_lt pm hi
  have ro := net_rule ok h1
  rw [ought_tolR, ought_tolR, anN_at pm hi]
  generalize ns.getD (E.getD i 0) ([], []) = r at *
  show tolI (anR r E) ((NE r E).map fun e => (reoI E x).getD e.toNat 0) = tolI r (r.1.map fun e => x.getD e.toNat 0)
  rw [anR_tol ro pm fun e => (reo_st pm hx).get _]
  congr 1
  refine List.map_congr_left fun e he => ?_
  obtain ⟨k, rfl, hk⟩ := ear_in ro pm he
  have hk := List.mem_range.mp (pm.mem_iff.mp hk)
  obtain ⟨a, b⟩ := E_at pm hk
  unfold plE
  rw [Int.toNat_natCast, Int.toNat_natCast, reo_at pm b, a]
theorem an_rest (ok : NetOk ns most) (pm : E.Perm (List.range ns.length)) (hx : IsSt ns.length x) : wrongI (anN ns E) (reoI E x) = [] ↔ wrongI ns x = [] := by
  rw [wrong_nil, wrong_nil, anN_len pm]
  constructor
  · intro h k hk
    obtain ⟨a, b⟩ := E_at pm hk
    have := h _ b
    rw [an_ought ok pm hx b, reo_at pm b, a] at this
    exact this
  · intro h i hi
    rw [an_ought ok pm hx hi, reo_at pm hi]
    exact h _ (E_lt pm hi).1
theorem an_rests (ok : NetOk ns most) (pm : E.Perm (List.range ns.length)) : sortL ((restsI ns).map (reoI E)) = restsI (anN ns E) := by
  refine rests_sort ?_ fun x => ?_
  · rw [List.nodup_iff_pairwise_ne, List.pairwise_map]
    refine List.Pairwise.imp_of_mem (fun {a b} ha hb h z => h ?_) (List.nodup_iff_pairwise_ne.mp rests_nd)
    rw [← beh_reo pm (mem_restsI.mp ha).1, z, beh_reo pm (mem_restsI.mp hb).1]
  · rw [List.mem_map, mem_restsI, anN_len pm]
    constructor
    · rintro ⟨a, ha, rfl⟩
      obtain ⟨h1, h2⟩ := mem_restsI.mp ha
      exact ⟨reo_st pm h1, (an_rest ok pm h1).mpr h2⟩
    · rintro ⟨h1, h2⟩
      have hb := reo_st (beh_perm pm) h1
      exact ⟨reoI (behE E ns.length) x, mem_restsI.mpr ⟨hb, (an_rest ok pm hb).mp (by rw [reo_beh pm h1]; exact h2)⟩, reo_beh pm h1⟩
theorem rise_of_sub {es : List Nat} (h : es.Sublist (List.range m)) : (es.map fun j : Nat => (j : Int)).Pairwise (· ≤ ·) := by
  rw [List.pairwise_map]
  exact (List.pairwise_lt_range.sublist h).imp fun h => by omega
theorem an_back (ro : RuleOk m r) (pm : E.Perm (List.range m)) : anR (anR r E) (behE E m) = r := by
  obtain ⟨es, e1, sub⟩ := ro.sub
  have bb : ∀ e ∈ r.1, plE (behE E m) (plE E e) = e := fun e he => by
    obtain ⟨k, rfl, hk⟩ := ear_in ro pm he
    have hk := List.mem_range.mp (pm.mem_iff.mp hk)
    obtain ⟨a, b⟩ := E_at pm hk
    unfold plE
    rw [Int.toNat_natCast, Int.toNat_natCast, beh_idx pm b, a]
  have ne : NE (anR r E) (behE E m) = r.1 := by
    refine (sortI_of ?_ (by rw [e1]; exact rise_of_sub sub)).symm
    have p : ((NE r E).map (plE (behE E m))).Perm ((PE r E).map (plE (behE E m))) := NE_perm.map _
    have q : (PE r E).map (plE (behE E m)) = r.1 := by
      unfold PE
      rw [List.map_map]
      conv => rhs; rw [← List.map_id r.1]
      exact List.map_congr_left fun e he => bb e he
    rw [q] at p
    exact p.symm
  have nd1 := RuleOk.nd1 ro
  refine Prod.ext ne ?_
  show (stands (NE r E).length).map (anV (anR r E) (behE E m)) = r.2
  rw [NE_len]
  conv => rhs; rw [tab_tol ro.lk]
  refine List.map_congr_left fun rd hrd => ?_
  have hr := mem_stands.mp hrd
  unfold anV
  rw [ne]
  show tolI (anR r E) (((NE r E).map (plE (behE E m))).map (lkI r.1 rd)) = tolI r rd
  rw [List.map_map, anR_tol ro pm (a := lkI r.1 rd ∘ plE (behE E m)) fun e => lkI_bit hr.bit]
  congr 1
  have : r.1.map (fun e => (lkI r.1 rd ∘ plE (behE E m)) (plE E e)) = r.1.map (lkI r.1 rd) := List.map_congr_left fun e he => by
    show lkI r.1 rd (plE (behE E m) (plE E e)) = _
    rw [bb e he]
  rw [this]
  exact map_lkI nd1 hr.len.symm
theorem an_an (ok : NetOk ns most) (pm : E.Perm (List.range ns.length)) : anN (anN ns E) (behE E ns.length) = ns := by
  have pb := beh_perm pm
  unfold anN
  show ((List.range ns.length).map fun k => E.idxOf k).map (fun k => anR ((E.map fun k => anR (ns.getD k ([], [])) E).getD k ([], [])) (behE E ns.length)) = ns
  rw [List.map_map]
  conv => rhs; rw [← range_getD (d := ([], [])) (xs := ns) rfl]
  refine List.map_congr_left fun k hk => ?_
  have hk := List.mem_range.mp hk
  obtain ⟨a, b⟩ := E_at pm hk
  show anR ((anN ns E).getD (E.idxOf k) ([], [])) (behE E ns.length) = _
  rw [anN_at pm b, a]
  exact an_back (net_rule ok hk) pm
end
end H

set_option Elab.async false
set_option linter.all false
set_option maxRecDepth 100000
set_option maxHeartbeats 2000000
namespace H
open PySem PySem.Spec PyProof.Rows L2 Y
section
variable {ns : List RuleT} {most m k j : Nat} {st x y : List Int}
theorem rests_leQ : (restsI ns).length ≤ 2 ^ ns.length := by
  have := List.length_filter_le (fun st => (wrongI ns st).isEmpty) (stands ns.length)
  rw [stands_len] at this
  exact this
theorem small_ok (ok : NetOk ns most) (hm : most ≤ 7) (hk : k < ns.length) (h2 : 2 ≤ ns.length) :
    C.g__law_small [dNetF ns, .int k] = .ok (.vl (if (k : Int) ∈ (ownQ ns k).1 ∨ manyQ ns k = true then .non else dNet (foldN ns k))) := by
  have ow := own_rule_okF ok (by omega) hk
  by_cases c : (k : Int) ∈ (ownQ ns k).1
  · rw [if_pos (.inl c)] at ow
    have fo : C.g_folded_2 [dNetF ns, .int k] = .er "Hears" [] := by
      simp only [C.g_folded_2, C.m_folded_2]
      generalize dNetF ns = N at *
      simp [e_fnP, ow]
    rw [if_pos (.inl c)]
    simp only [C.g__law_small, C.m__law_small, C.w__law_small_1, C.h__law_small_1]
    generalize dNetF ns = N at *
    simp [e_fnP, fo]
  · have fo := folded_okF ok hm hk c (by omega)
    cases q : manyQ ns k with
    | true =>
      rw [q, if_pos rfl] at fo
      rw [if_pos (.inr rfl)]
      simp only [C.g__law_small, C.m__law_small, C.w__law_small_1, C.h__law_small_1]
      generalize dNetF ns = N at *
      simp [e_fnP, fo]
    | false =>
      rw [q, if_neg Bool.false_ne_true] at fo
      rw [if_neg (fun z => z.elim c Bool.noConfusion)]
      have nF : (dNet (foldN ns k)).nl = true := by
        show nls ((foldN ns k).map dRule) = true
        exact nls_map fun r _ => by simp [dRule]
      simp only [C.g__law_small, C.m__law_small, C.w__law_small_1, C.h__law_small_1]
      generalize dNet (foldN ns k) = F at *
      generalize dNetF ns = N at *
      simp [e_fnP, fo]
theorem foldN_good (ok : NetOk ns most) (hm : most ≤ 7) (hk : k < ns.length) (h2 : 2 ≤ ns.length) : GoodNet (foldN ns k) := by
  have le := ok.le
  refine ⟨by rw [foldN_len hk]; omega, fun r hr => ?_⟩
  unfold foldN at hr
  obtain ⟨j, hj, rfl⟩ := List.mem_map.mp hr
  obtain ⟨hj, hne⟩ := othQ_mem.mp hj
  have rj := net_rule ok hj
  have ro := slim_ok4 (net_rule ok hk)
  have w := shRf_w (foldT_w (k := k) rj ro) foldT_nk hk
  obtain ⟨lk, l7⟩ := foldT_lk ok (by omega) hk hj
  have sl := slim_lk lk
  have e : foldQ ns k j = slimR (shRf k (foldT (ns.getD j ([], [])) (slimR (ns.getD k ([], []))) k)) := slimR_map.symm
  have el : (foldQ ns k j).1.length = (slimR (foldT (ns.getD j ([], [])) (ownQ ns k) k)).1.length := foldQ_len rfl
  refine ⟨by rw [el]; have := sl.len; omega, fun x hx => ?_, ?_⟩
  · rw [e] at hx
    have := (thU_riseW w).2 x hx
    rw [foldN_len hk]
    unfold rgI at this
    obtain ⟨i, hi, rfl⟩ := List.mem_map.mp this
    have := List.mem_range.mp hi
    omega
  · rw [el]
    exact sl.tab
theorem fold_name_turn (ok : NetOk ns most) (hm : most ≤ 7) (hk : k < ns.length) (h2 : 2 ≤ ns.length) {x0 x1 x2 x3 : Option D} :
    turnF (tmName 6) C.b_law_k95_1 [6, 7] (.int k) [x0, x1, x2, x3, some (dNetF ns), some (lti (restsI ns)), none, none, none, none, none, none, none, none] = .ok (.nx, [x0, x1, x2, x3, some (dNetF ns), some (lti (restsI ns)), none, none, none, none, none, none, none, none]) := by
  have le := ok.le
  have sm := small_ok ok hm hk h2
  by_cases c : (k : Int) ∈ (ownQ ns k).1 ∨ manyQ ns k = true
  · rw [if_pos c] at sm
    simp only [turnF, C.b_law_k95_1]
    generalize dNetF ns = N at *
    generalize lti (restsI ns) = R0 at *
    simp [sm, Y.isNon]
  · rw [if_neg c] at sm
    have hn : (k : Int) ∉ (ownQ ns k).1 := fun z => c (.inl z)
    have hq : manyQ ns k = false := by
      cases q : manyQ ns k with
      | true => exact absurd (.inr q) c
      | false => rfl
    have hl := foldN_len (ns := ns) hk
    have re := rests_of_ok (foldN_good ok hm hk h2) (by rw [hl]; omega)
    have p8 : 2 ^ (foldN ns k).length ≤ 2 ^ 7 := Nat.pow_le_pow_right (by omega) (by rw [hl]; omega)
    have rl := rests_leQ (ns := foldN ns k)
    have st1 : ∀ a, a ∈ restsI (foldN ns k) → IsSt (ns.length - 1) a := fun a ha => by
      have := (mem_restsI.mp ha).1
      rwa [hl] at this
    have cc := comp_map (tm := tmName 13) (t := cYes) (e := C.e_law_k95_2) (vs := [13]) (ws := []) (ρ := [x0, x1, x2, x3, some (dNetF ns), some (lti (restsI ns)), some (.int k), some (dNet (foldN ns k)), none, none, none, none, none, none]) ti (fun st => ti (ledB ns k st)) (restsI (foldN ns k)) fun st hs => by
      have un := unfolded_okF ok hm hk hn (by omega) hq (st1 st hs)
      have un : C.g_unfolded_2 [dNetF ns, .int k, ti st] = .ok (.fr (ti (ledB ns k st))) := un
      simp only [turnC, C.e_law_k95_2]
      generalize dNet (foldN ns k) = F
      generalize dNetF ns = N at *
      generalize lti (restsI ns) = R0
      generalize ti (ledB ns k st) = LB at *
      generalize ti st = T at *
      simp [un]
    have e2 : ((restsI (foldN ns k)).map fun st => ti (ledB ns k st)) = ((restsI (foldN ns k)).map (ledB ns k)).map ti := by rw [List.map_map]; rfl
    rw [e2] at cc
    have so := sort_lti (xs := (restsI (foldN ns k)).map (ledB ns k)) fun x hx z => by
      obtain ⟨a, ha, rfl⟩ := List.mem_map.mp hx
      have : (ledB ns k a).length = ns.length := (insI_st (st1 a ha) hk (ownB_bit (st := a) ok hk)).len
      rw [z] at this
      simp at this
      omega
    rw [fold_rests ok hk hn] at so
    have ne := ne_lti (a := restsI ns) (b := restsI ns)
    rw [decide_eq_true rfl] at ne
    have ne : neD (lti (restsI ns)) (lti (restsI ns)) = .ok (.bl false) := ne
    have zr : szOk ((restsI (foldN ns k)).map ti).length = true := szOk_of (by rw [List.length_map]; omega)
    have zl : szOk (((restsI (foldN ns k)).map (ledB ns k)).map ti).length = true := szOk_of (by rw [List.length_map, List.length_map]; omega)
    have so : sortD [.lst (((restsI (foldN ns k)).map (ledB ns k)).map ti)] = .ok (lti (restsI ns)) := so
    have it : itD (lti (restsI (foldN ns k))) = .ok ((restsI (foldN ns k)).map ti) := rfl
    have nn : isNotD (dNet (foldN ns k)) .non = .ok (.bl true) := rfl
    simp only [turnF, C.b_law_k95_1]
    generalize C.e_law_k95_2 = E2 at *
    generalize dNet (foldN ns k) = F at *
    generalize dNetF ns = N at *
    generalize lti (restsI ns) = R0 at *
    generalize lti (restsI (foldN ns k)) = R1 at *
    generalize ((restsI (foldN ns k)).map (ledB ns k)).map ti = ML at *
    generalize (restsI (foldN ns k)).map ti = RL at *
    simp [sm, nn, re, it, zr, cc, zl, so, ne]
theorem slimF2_ok (ok : NetOk ns most) (hm : most ≤ 8) : C.g_slim_2 [dNetF ns] = .ok (.fr (dNetF (ns.map slimR))) := by
  have le := ok.le
  have c := comp_map (tm := tmName 1) (t := cYes) (e := C.e_slim_2_1) (vs := [1]) (ws := []) (ρ := [some (dNetF ns), none]) dRuleF (fun r => dRuleF (slimR r)) ns fun r hr => by
    have ro := ok.rule r hr
    have s := slim_rule7_okF ro.lk (by have := ro.len; omega)
    simp only [turnC, C.e_slim_2_1]
    generalize dNetF ns = N
    generalize dRuleF (slimR r) = S at *
    generalize dRuleF r = DR at *
    simp [s]
  have e2 : (ns.map fun r => dRuleF (slimR r)) = (ns.map slimR).map dRuleF := by rw [List.map_map]; rfl
  rw [e2] at c
  have it : itD (dNetF ns) = .ok (ns.map dRuleF) := rfl
  have z : szOk (ns.map dRuleF).length = true := szOk_of (by rw [List.length_map]; omega)
  have z2 : szOk ((ns.map slimR).map dRuleF).length = true := szOk_of (by rw [List.length_map, List.length_map]; omega)
  have tp : tupleD [.lst ((ns.map slimR).map dRuleF)] = .ok (dNetF (ns.map slimR)) := rfl
  simp only [C.g_slim_2, C.m_slim_2]
  generalize dNetF (ns.map slimR) = N2 at *
  generalize (ns.map slimR).map dRuleF = L2 at *
  generalize hN : dNetF ns = N at *
  generalize ns.map dRuleF = L1 at *
  generalize C.e_slim_2_1 = E1 at *
  simp [e_fnP, it, z, c, z2, tp]
end
end H

set_option Elab.async false
set_option linter.all false
set_option maxRecDepth 100000
set_option maxHeartbeats 4000000
namespace H
open PySem PySem.Spec PyProof.Rows L2 Y
theorem ne_FF {ns : List RuleT} : neD (dNetF ns) (dNetF ns) = .ok (.bl false) := neD_refl (n := 3) (fit_nF (n := 0) (ns := ns))
theorem idx_cast : ∀ {E : List Nat} {e : Nat}, (E.map fun k : Nat => (k : Int)).idxOf (e : Int) = E.idxOf e
  | [], _ => rfl
  | a :: E, e => by
    have ih := idx_cast (E := E) (e := e)
    rw [List.map_cons, List.idxOf_cons, List.idxOf_cons, ih]
    have b : ((a : Int) == (e : Int)) = (a == e) := by rw [Bool.eq_iff_iff, beq_iff_eq, beq_iff_eq]; omega
    rw [b]
theorem anR_rok {m : Nat} {r : RuleT} {E : List Nat} (ro : RuleOk m r) (pm : E.Perm (List.range m)) : RuleOk m (anR r E) := by
  obtain ⟨es, e1, sub⟩ := ro.sub
  have ep : PE r E = (es.map fun k => E.idxOf k).map fun k : Nat => (k : Int) := by
    unfold PE
    rw [e1, List.map_map, List.map_map]
    refine List.map_congr_left fun k _ => ?_
    show plE E (k : Int) = _
    unfold plE
    rw [Int.toNat_natCast]
    rfl
  have nd : (es.map fun k => E.idxOf k).Nodup := by
    have := PE_nd ro pm
    rw [ep, List.nodup_iff_pairwise_ne, List.pairwise_map] at this
    exact List.nodup_iff_pairwise_ne.mpr (this.imp fun h z => h (by rw [z]))
  obtain ⟨ns, hs, nsub, nl⟩ := sort_sub nd (m := m) fun x hx => by
    obtain ⟨k, hk, rfl⟩ := List.mem_map.mp hx
    exact (E_at pm (List.mem_range.mp (sub.mem hk))).2
  refine ⟨by show (NE r E).length ≤ 4; rw [NE_len]; exact ro.len, ⟨ns, by show NE r E = _; unfold NE; rw [ep]; exact hs, nsub⟩, by show ((stands r.1.length).map (anV r E)).length = 2 ^ (NE r E).length; rw [List.length_map, stands_len, NE_len], fun x hx => ?_⟩
  have hx : x ∈ (stands r.1.length).map (anV r E) := hx
  obtain ⟨rd, _, rfl⟩ := List.mem_map.mp hx
  exact tol_bit ro.lk
theorem good_k95 : Good C.g_law_k95 63 := fun ns hl hb => by
  obtain ⟨M, hM⟩ : ∃ M : Nat, max (1 : Int) (min (ns.length : Int) 3) = M := ⟨(max (1 : Int) (min (ns.length : Int) 3)).toNat, by omega⟩
  have hM4 : M ≤ 4 := by omega
  obtain ⟨ρ', h, hρ⟩ := for_inv (tm := tmName 1) (body := C.b_law_k95_2) (vs := [1, 2, 3, 4, 5, 6, 7, 8, 9, 10, 11]) (ws := []) (fun k : Nat => D.int (k : Nat)) (fun ρ => ρ = [some (.arg ns), none, none, none, none, none, none, none, none, none, none, none, none, none]) (List.range M) [some (.arg ns), none, none, none, none, none, none, none, none, none, none, none, none, none] rfl fun ρ k hρ hk => by
    subst hρ
    have hk := List.mem_range.mp hk
    obtain ⟨b, hbox⟩ := box_ok (ns := ns) (k := k) hb (by omega)
    have tk : C.g__law_take [.lst [.int b], .int 5] = .ok (.vl (.int (b % 5)), [some (.lst [.int (b / 5)]), none]) := take_ok (by omega) (by omega)
    have p5 : 0 ≤ b % 5 ∧ b % 5 < 5 := ⟨Int.emod_nonneg _ (by omega), Int.emod_lt_of_pos _ (by omega)⟩
    obtain ⟨m, hm⟩ : ∃ m : Nat, 2 + b % 5 = m := ⟨(2 + b % 5).toNat, by omega⟩
    have hm1 : 2 ≤ m ∧ m ≤ 6 := by omega
    obtain ⟨net, n1, e1, l1, r1⟩ := comp_ex (tm := tmName 6) (t := cYes) (e := C.e_law_k95_1) (vs := [6]) (ws := []) (fun j : Nat => D.int (j : Nat)) dRuleF (fun b : Int => [some (.arg ns), some (.int k), some (.lst [.int b]), some (.int m), none, none, none, none, none, none, none, none, none, none]) (fun r => RuleOk m r) (List.range m) (b / 5) fun b j hj => by
      obtain ⟨r, n', e, ro⟩ := ruleF_ok (n := b) (m := m) (by omega)
      refine ⟨r, n', ?_, ro, by simp⟩
      simp only [turnC, C.e_law_k95_1]
      generalize dRuleF r = RD at *
      simp [e]
    rw [List.length_range] at l1
    have ok : NetOk net 6 := ⟨by omega, by omega, fun r hr => by rw [l1]; exact r1 r hr⟩
    subst l1
    have h2 : 2 ≤ net.length := hm1.1
    have p6 : 2 ^ net.length ≤ 2 ^ 6 := Nat.pow_le_pow_right (by omega) hm1.2
    have rl := rests_leQ (ns := net)
    have hst : ∀ a ∈ restsI net, IsSt net.length a := fun a ha => (mem_restsI.mp ha).1
    have r0 := restsF_ok ok (by omega)
    -- folds
    have lp : forL (tmName 6) C.b_law_k95_1 [6, 7] [] ((List.range net.length).map fun j : Nat => D.int (j : Nat)) [some (.arg ns), some (.int k), some (.lst [.int n1]), some (.int net.length), some (dNetF net), some (lti (restsI net)), none, none, none, none, none, none, none, none] = .ok (.nx, [some (.arg ns), some (.int k), some (.lst [.int n1]), some (.int net.length), some (dNetF net), some (lti (restsI net)), none, none, none, none, none, none, none, none]) :=
      for_rng (fun j : Nat => D.int (j : Nat)) (fun _ => _) fun j hj => ⟨by simp, fold_name_turn ok (by omega) hj h2⟩
    -- flipped
    have tn := take_ok (n := n1) (m := net.length) (by omega) (by omega)
    obtain ⟨q, hq⟩ : ∃ q : Nat, n1 % (net.length : Int) = q := ⟨(n1 % (net.length : Int)).toNat, by have := Int.emod_nonneg n1 (b := (net.length : Int)) (by omega); omega⟩
    have hql : q < net.length := by have := Int.emod_lt_of_pos n1 (b := (net.length : Int)) (by omega); omega
    rw [hq] at tn
    have f1 := flipped_ok ok (by omega) hql
    have ok2 := flp_net (k := q) ok
    have f2 := flipped_ok ok2 (by omega) (by rw [flpN_len]; exact hql)
    rw [flp_flp ok hql] at f2
    have r2 := restsF_ok ok2 (by omega)
    have cc := comp_map (tm := tmName 13) (t := cYes) (e := C.e_law_k95_3) (vs := [13]) (ws := []) (ρ := [some (.arg ns), some (.int k), some (.lst [.int (n1 / net.length)]), some (.int net.length), some (dNetF net), some (lti (restsI net)), some (.int q), none, some (dNetF (flpN net q)), none, none, none, none, none]) ti (fun st => ti (flipI st q)) (restsI net) fun st hs => by
      have ch := law_change_ok (hst st hs) hql (by omega)
      simp only [turnC, C.e_law_k95_3]
      generalize dNetF (flpN net q) = F
      generalize dNetF net = N at *
      generalize lti (restsI net) = R0
      generalize ti (flipI st q) = LB at *
      generalize ti st = T at *
      simp [ch]
    have e2 : ((restsI net).map fun st => ti (flipI st q)) = ((restsI net).map fun st => flipI st q).map ti := by rw [List.map_map]; rfl
    rw [e2] at cc
    have so := sort_lti (xs := (restsI net).map fun st => flipI st q) fun x hx z => by
      obtain ⟨a, ha, rfl⟩ := List.mem_map.mp hx
      have := (flip_st (hst a ha) hql).len
      rw [z] at this
      simp at this
      omega
    rw [flp_rests ok hql] at so
    have so : sortD [.lst (((restsI net).map fun st => flipI st q).map ti)] = .ok (lti (restsI (flpN net q))) := so
    have ne2 : neD (lti (restsI (flpN net q))) (lti (restsI (flpN net q))) = .ok (.bl false) := by
      have := ne_lti (a := restsI (flpN net q)) (b := restsI (flpN net q))
      rwa [decide_eq_true rfl] at this
    -- named anew
    obtain ⟨E, n3, hE, pm⟩ := law_names_okF (n := n1 / net.length) (m := net.length) (by omega)
    have el : E.length = net.length := by have := pm.length_eq; rwa [List.length_range] at this
    have a1 := namedF_ok ok (by omega) pm
    have pb := beh_perm pm
    have al := anN_len pm
    have okA : NetOk (anN net E) 6 := by
      refine ⟨by rw [al]; omega, by rw [al]; omega, fun r hr => ?_⟩
      rw [al]
      unfold anN at hr
      obtain ⟨e, he, rfl⟩ := List.mem_map.mp hr
      exact anR_rok (net_rule ok (List.mem_range.mp (pm.mem_iff.mp he))) pm
    have a2 := namedT_ok okA (by omega) (E := behE E net.length) (by rw [al]; exact pb)
    rw [an_an ok pm] at a2
    have r3 := rests_of_ok (okA.good (by omega)) (by rw [al]; omega)
    have c3 := comp_map (tm := tmName 13) (t := cYes) (e := C.e_law_k95_5) (vs := [13]) (ws := []) (ρ := [some (.arg ns), some (.int k), some (.lst [.int n3]), some (.int net.length), some (dNetF net), some (lti (restsI net)), some (.int q), none, some (dNetF (flpN net q)), some (tnF E), some (dNet (anN net E)), none, none, none]) ti (fun st => ti (reoI E st)) (restsI net) fun st hs => by
      have hs1 := hst st hs
      have ci := comp_map (tm := tmName 12) (t := cYes) (e := C.e_law_k95_4) (vs := [12]) (ws := []) (ρ := [some (.arg ns), some (.int k), some (.lst [.int n3]), some (.int net.length), some (dNetF net), some (lti (restsI net)), some (.int q), none, some (dNetF (flpN net q)), some (tnF E), some (dNet (anN net E)), none, none, some (ti st)]) (fun e : Nat => D.int (e : Nat)) (fun e => D.int (st.getD e 0)) E fun e he => by
        have hel := List.mem_range.mp (pm.mem_iff.mp he)
        have a := atI_mapI (xs := st) (i := e) (by omega) (by rw [hs1.len]; omega)
        rw [Int.toNat_natCast] at a
        have a : atI (st.map D.int) e = some (.int (st.getD e 0)) := a
        simp only [turnC, C.e_law_k95_4]
        generalize dNetF (flpN net q) = F
        generalize dNetF net = N at *
        generalize dNet (anN net E) = A
        generalize lti (restsI net) = R0
        generalize tnF E = TE
        generalize st.getD e 0 = v at *
        simp [a]
      have e4 : (E.map fun e => D.int (st.getD e 0)) = (reoI E st).map D.int := by unfold reoI; rw [List.map_map]; rfl
      rw [e4] at ci
      have it : itD (tnF E) = .ok (E.map fun e : Nat => D.int (e : Nat)) := rfl
      have zE : szOk (E.map fun e : Nat => D.int (e : Nat)).length = true := szOk_of (by rw [List.length_map]; omega)
      have zR : szOk ((reoI E st).map D.int).length = true := szOk_of (by unfold reoI; rw [List.length_map, List.length_map]; omega)
      have tp : tupleD [.lst ((reoI E st).map D.int)] = .ok (ti (reoI E st)) := rfl
      simp only [turnC, C.e_law_k95_5]
      generalize C.e_law_k95_4 = E4 at *
      generalize dNetF (flpN net q) = F at *
      generalize dNetF net = N at *
      generalize dNet (anN net E) = A at *
      generalize lti (restsI net) = R0 at *
      generalize tnF E = TE at *
      generalize E.map (fun e : Nat => D.int (e : Nat)) = EL at *
      generalize hRE : ti (reoI E st) = RE at *
      generalize (reoI E st).map D.int = RL at *
      generalize ti st = T at *
      simp [it, zE, ci, zR, tp, hRE]
    have e5 : ((restsI net).map fun st => ti (reoI E st)) = ((restsI net).map (reoI E)).map ti := by rw [List.map_map]; rfl
    rw [e5] at c3
    have so3 := sort_lti (xs := (restsI net).map (reoI E)) fun x hx z => by
      obtain ⟨a, ha, rfl⟩ := List.mem_map.mp hx
      have := (reo_st pm (hst a ha)).len
      rw [z] at this
      simp at this
      omega
    rw [an_rests ok pm] at so3
    have so3 : sortD [.lst (((restsI net).map (reoI E)).map ti)] = .ok (lti (restsI (anN net E))) := so3
    have ne3 : neD (lti (restsI (anN net E))) (lti (restsI (anN net E))) = .ok (.bl false) := by
      have := ne_lti (a := restsI (anN net E)) (b := restsI (anN net E))
      rwa [decide_eq_true rfl] at this
    -- behind
    have c6 := comp_map (tm := tmName 12) (t := cYes) (e := C.e_law_k95_6) (vs := [12]) (ws := []) (ρ := [some (.arg ns), some (.int k), some (.lst [.int n3]), some (.int net.length), some (dNetF net), some (lti (restsI net)), some (.int q), none, some (dNetF (flpN net q)), some (tnF E), some (dNet (anN net E)), none, none, none]) (fun e : Nat => D.int (e : Nat)) (fun e => D.int (E.idxOf e : Nat)) (List.range net.length) fun e he => by
      have hm := pm.mem_iff.mpr he
      have ix : indexFD (tnF E) (.int (e : Nat)) = .ok (.int (E.idxOf e : Nat)) := by
        have e7 : E.map (fun k : Nat => D.int (k : Nat)) = (E.map fun k : Nat => (k : Int)).map D.int := by rw [List.map_map]; rfl
        show (match intsOf (E.map fun k : Nat => D.int (k : Nat)) with | some ns => if ((e : Nat) : Int) ∈ ns then R.ok (D.int (ns.idxOf ((e : Nat) : Int) : Nat)) else .stk | none => .stk) = _
        rw [e7, Y.ints_map]
        show (if ((e : Nat) : Int) ∈ E.map (fun k : Nat => (k : Int)) then R.ok (D.int ((E.map fun k : Nat => (k : Int)).idxOf ((e : Nat) : Int) : Nat)) else .stk) = _
        rw [if_pos (List.mem_map.mpr ⟨e, hm, rfl⟩), idx_cast]
      obtain ⟨EL, hEL⟩ : ∃ EL, tnF E = .ftu EL := ⟨_, rfl⟩
      rw [hEL] at ix ⊢
      simp only [turnC, C.e_law_k95_6]
      generalize dNetF (flpN net q) = F
      generalize dNetF net = N at *
      generalize dNet (anN net E) = A
      generalize lti (restsI net) = R0
      generalize ((E.idxOf e : Nat) : Int) = IX at *
      simp [ix]
    have e6 : ((List.range net.length).map fun e => D.int (E.idxOf e : Nat)) = (behE E net.length).map fun k : Nat => D.int (k : Nat) := by unfold behE; rw [List.map_map]; rfl
    rw [e6] at c6
    have tB : tupleFD [.lst ((behE E net.length).map fun k : Nat => D.int (k : Nat))] = .ok (tnF (behE E net.length)) := rfl
    have zB : szOk ((behE E net.length).map fun k : Nat => D.int (k : Nat)).length = true := szOk_of (by unfold behE; rw [List.length_map, List.length_map, List.length_range]; omega)
    have ne4 := ne_TF (ns := net)
    have ne5 := ne_FF (ns := net)
    -- slim
    have sl := slimF2_ok ok (by omega)
    have r4 := restsF_ok (slim_net ok) (by omega)
    rw [slim_rests ok] at r4
    have ne0 : neD (lti (restsI net)) (lti (restsI net)) = .ok (.bl false) := by
      have := ne_lti (a := restsI net) (b := restsI net)
      rwa [decide_eq_true rfl] at this
    have rm : rngOk net.length = true := rngOk_of (by omega) (by omega)
    have zm : szOk net.length = true := szOk_of (by omega)
    have zn : szOk (net.map dRuleF).length = true := szOk_of (by rw [List.length_map]; omega)
    have tp : tupleD [.lst (net.map dRuleF)] = .ok (dNetF net) := rfl
    have it : itD (lti (restsI net)) = .ok ((restsI net).map ti) := rfl
    have zr : szOk ((restsI net).map ti).length = true := szOk_of (by rw [List.length_map]; omega)
    have z3 : szOk (((restsI net).map fun st => flipI st q).map ti).length = true := szOk_of (by rw [List.length_map, List.length_map]; omega)
    have z4 : szOk (((restsI net).map (reoI E)).map ti).length = true := szOk_of (by rw [List.length_map, List.length_map]; omega)
    have rg : rng1D [.int net.length] = .ok ((List.range net.length).map fun j : Nat => D.int (j : Nat)) := by simp [rm]
    have zg : szOk ((List.range net.length).map fun j : Nat => D.int (j : Nat)).length = true := szOk_of (by rw [List.length_map, List.length_range]; omega)
    refine ⟨_, ?_, rfl, by simp⟩
    simp only [turnF, C.b_law_k95_2]
    generalize C.b_law_k95_1 = B1 at *
    generalize C.e_law_k95_1 = E1 at *
    generalize C.e_law_k95_3 = E3 at *
    generalize C.e_law_k95_5 = E5 at *
    generalize C.e_law_k95_6 = E6 at *
    generalize dNetF (net.map slimR) = NS at *
    generalize dNetF (flpN net q) = N2 at *
    generalize dNet (anN net E) = NA at *
    generalize dNet net = NT at *
    generalize hN1 : dNetF net = N1 at *
    generalize net.map dRuleF = NL at *
    generalize lti (restsI (anN net E)) = RA at *
    generalize lti (restsI (flpN net q)) = RF at *
    generalize lti (restsI net) = R0 at *
    generalize ((restsI net).map fun st => flipI st q).map ti = L3 at *
    generalize ((restsI net).map (reoI E)).map ti = L4 at *
    generalize (restsI net).map ti = L0 at *
    generalize tnF (behE E net.length) = TB at *
    generalize (behE E net.length).map (fun k : Nat => D.int (k : Nat)) = BL at *
    generalize tnF E = TE at *
    generalize (List.range net.length).map (fun j : Nat => D.int (j : Nat)) = RG at *
    generalize (net.length : Int) = LN at *
    simp [hbox, tk, hm, rg, zg, e1, zn, tp, r0, lp, tn, f1, it, zr, cc, z3, so, r2, ne2, f2, ne5, hE, a1, c3, z4, so3, r3, ne3, c6, tB, zB, a2, ne4, sl, r4, ne0, shAt, chkO_ws, szOk_of, -d_rng1]
  subst hρ
  have rM : rngOk M = true := rngOk_of (by omega) (by omega)
  have zM : szOk M = true := szOk_of (by omega)
  refine ⟨.fr (.bl true), ?_, .inl rfl⟩
  simp only [C.g_law_k95, C.m_law_k95]
  simp [e_fnP, hM, rM, zM, h]
end H

set_option Elab.async false
set_option linter.all false
set_option maxRecDepth 100000
namespace K95
open PySem PySem.Spec PyProof.Rows L2 Y
def top (i : Nat) : Stmt := PySem.Challenge.pw_switchnets_k95_whole_rests_led_over.main.body.getD i (.Pass ⟨0, 0, 0, 0⟩)
abbrev s_is_whole : Stmt := top 9
theorem sc_is_whole : FnScope ["thing"] ["thing"] (defScope s_is_whole) := ⟨rfl, rfl, rfl, by decide +kernel, rfl, by decide +kernel, by decide +kernel⟩
abbrev s_is_upto : Stmt := top 10
theorem sc_is_upto : FnScope ["thing", "many"] ["thing", "many"] (defScope s_is_upto) := ⟨rfl, rfl, rfl, by decide +kernel, rfl, by decide +kernel, by decide +kernel⟩
abbrev s_are_bits : Stmt := top 11
theorem sc_are_bits : FnScope ["thing", "many", "one"] ["thing", "many"] (defScope s_are_bits) := ⟨rfl, rfl, rfl, by decide +kernel, rfl, by decide +kernel, by decide +kernel⟩
abbrev s_is_stand : Stmt := top 12
theorem sc_is_stand : FnScope ["net", "thing"] ["net", "thing"] (defScope s_is_stand) := ⟨rfl, rfl, rfl, by decide +kernel, rfl, by decide +kernel, by decide +kernel⟩
abbrev s_look_at_stand : Stmt := top 13
theorem sc_look_at_stand : FnScope ["net", "thing"] ["net", "thing"] (defScope s_look_at_stand) := ⟨rfl, rfl, rfl, by decide +kernel, rfl, by decide +kernel, by decide +kernel⟩
abbrev s_look_at_switch : Stmt := top 14
theorem sc_look_at_switch : FnScope ["net", "thing"] ["net", "thing"] (defScope s_look_at_switch) := ⟨rfl, rfl, rfl, by decide +kernel, rfl, by decide +kernel, by decide +kernel⟩
abbrev s_stands_of : Stmt := top 15
theorem sc_stands_of : FnScope ["many", "found", "k", "stand"] ["many"] (defScope s_stands_of) := ⟨rfl, rfl, rfl, by decide +kernel, rfl, by decide +kernel, by decide +kernel⟩
abbrev s_place_of : Stmt := top 16
theorem sc_place_of : FnScope ["bits", "place", "bit"] ["bits"] (defScope s_place_of) := ⟨rfl, rfl, rfl, by decide +kernel, rfl, by decide +kernel, by decide +kernel⟩
abbrev s_ought : Stmt := top 17
theorem sc_ought : FnScope ["net", "stand", "k", "ears", "table", "ear"] ["net", "stand", "k"] (defScope s_ought) := ⟨rfl, rfl, rfl, by decide +kernel, rfl, by decide +kernel, by decide +kernel⟩
abbrev s_wrong_ones : Stmt := top 18
theorem sc_wrong_ones : FnScope ["net", "stand", "k"] ["net", "stand"] (defScope s_wrong_ones) := ⟨rfl, rfl, rfl, by decide +kernel, rfl, by decide +kernel, by decide +kernel⟩
abbrev s_heard : Stmt := top 20
theorem sc_heard : FnScope ["rule", "ears", "table", "found", "place", "ear", "far", "at"] ["rule"] (defScope s_heard) := ⟨rfl, rfl, rfl, by decide +kernel, rfl, by decide +kernel, by decide +kernel⟩
abbrev s_slim_rule : Stmt := top 21
theorem sc_slim_rule : FnScope ["rule", "own", "table", "reading", "bits", "bit", "place", "ear"] ["rule"] (defScope s_slim_rule) := ⟨rfl, rfl, rfl, by decide +kernel, rfl, by decide +kernel, by decide +kernel⟩
abbrev s_slim : Stmt := top 22
theorem sc_slim : FnScope ["net", "rule"] ["net"] (defScope s_slim) := ⟨rfl, rfl, rfl, by decide +kernel, rfl, by decide +kernel, by decide +kernel⟩
abbrev s_is_order : Stmt := top 23
theorem sc_is_order : FnScope ["thing", "many", "one"] ["thing", "many"] (defScope s_is_order) := ⟨rfl, rfl, rfl, by decide +kernel, rfl, by decide +kernel, by decide +kernel⟩
abbrev s_rule_anew : Stmt := top 24
theorem sc_rule_anew : FnScope ["rule", "place", "ears", "table", "names", "told", "reading", "bits", "ear"] ["rule", "place"] (defScope s_rule_anew) := ⟨rfl, rfl, rfl, by decide +kernel, rfl, by decide +kernel, by decide +kernel⟩
abbrev s_named_anew : Stmt := top 25
theorem sc_named_anew : FnScope ["net", "names", "place", "at", "old"] ["net", "names"] (defScope s_named_anew) := ⟨rfl, rfl, rfl, by decide +kernel, rfl, by decide +kernel, by decide +kernel⟩
abbrev s_flipped : Stmt := top 26
theorem sc_flipped : FnScope ["net", "k", "found", "number", "ears", "table", "far", "told", "at", "bit"] ["net", "k"] (defScope s_flipped) := ⟨rfl, rfl, rfl, by decide +kernel, rfl, by decide +kernel, by decide +kernel⟩
abbrev s_bit_for : Stmt := top 28
theorem sc_bit_for : FnScope ["rule", "bits", "ear"] ["rule", "bits"] (defScope s_bit_for) := ⟨rfl, rfl, rfl, by decide +kernel, rfl, by decide +kernel, by decide +kernel⟩
abbrev s_told_without : Stmt := top 29
theorem sc_told_without : FnScope ["rule", "k", "own", "ears", "table", "reading", "bits"] ["rule", "k", "own"] (defScope s_told_without) := ⟨rfl, rfl, rfl, by decide +kernel, rfl, by decide +kernel, by decide +kernel⟩
abbrev s_own_rule : Stmt := top 30
theorem sc_own_rule : FnScope ["net", "k", "own"] ["net", "k"] (defScope s_own_rule) := ⟨rfl, rfl, rfl, by decide +kernel, rfl, by decide +kernel, by decide +kernel⟩
abbrev s_folded : Stmt := top 31
theorem sc_folded : FnScope ["net", "k", "own", "found", "number", "rule", "ears", "table", "ear"] ["net", "k"] (defScope s_folded) := ⟨rfl, rfl, rfl, by decide +kernel, rfl, by decide +kernel, by decide +kernel⟩
abbrev s_unfolded : Stmt := top 32
theorem sc_unfolded : FnScope ["net", "k", "stand", "found"] ["net", "k", "stand"] (defScope s_unfolded) := ⟨rfl, rfl, rfl, by decide +kernel, rfl, by decide +kernel, by decide +kernel⟩
abbrev s_rests_of : Stmt := top 34
theorem sc_rests_of : FnScope ["net", "stand"] ["net"] (defScope s_rests_of) := ⟨rfl, rfl, rfl, by decide +kernel, rfl, by decide +kernel, by decide +kernel⟩
abbrev s__law_cell : Stmt := top 36
theorem sc__law_cell : FnScope ["script", "k"] ["script", "k"] (defScope s__law_cell) := ⟨rfl, rfl, rfl, by decide +kernel, rfl, by decide +kernel, by decide +kernel⟩
abbrev s__law_mix : Stmt := top 37
theorem sc__law_mix : FnScope ["cell", "k", "number"] ["cell", "k"] (defScope s__law_mix) := ⟨rfl, rfl, rfl, by decide +kernel, rfl, by decide +kernel, by decide +kernel⟩
abbrev s__law_box : Stmt := top 38
theorem sc__law_box : FnScope ["script", "k", "here", "number", "j"] ["script", "k"] (defScope s__law_box) := ⟨rfl, rfl, rfl, by decide +kernel, rfl, by decide +kernel, by decide +kernel⟩
abbrev s__law_take : Stmt := top 39
theorem sc__law_take : FnScope ["box", "many", "left", "digit"] ["box", "many"] (defScope s__law_take) := ⟨rfl, rfl, rfl, by decide +kernel, rfl, by decide +kernel, by decide +kernel⟩
abbrev s__law_rule : Stmt := top 40
theorem sc__law_rule : FnScope ["box", "many", "ears", "size", "number", "mask", "least", "table", "place", "j"] ["box", "many"] (defScope s__law_rule) := ⟨rfl, rfl, rfl, by decide +kernel, rfl, by decide +kernel, by decide +kernel⟩
abbrev s__law_change : Stmt := top 41
theorem sc__law_change : FnScope ["stand", "k"] ["stand", "k"] (defScope s__law_change) := ⟨rfl, rfl, rfl, by decide +kernel, rfl, by decide +kernel, by decide +kernel⟩
abbrev s__law_names : Stmt := top 42
theorem sc__law_names : FnScope ["box", "many", "left", "found", "k"] ["box", "many"] (defScope s__law_names) := ⟨rfl, rfl, rfl, by decide +kernel, rfl, by decide +kernel, by decide +kernel⟩
abbrev s__law_small : Stmt := top 43
theorem sc__law_small : FnScope ["net", "k", "found"] ["net", "k"] (defScope s__law_small) := ⟨rfl, rfl, rfl, by decide +kernel, rfl, by decide +kernel, by decide +kernel⟩
abbrev s_law : Stmt := top 44
theorem sc_law : FnScope ["script", "k", "box", "many", "net", "rests", "name", "small", "other", "names", "anew", "behind", "old", "stand"] ["script"] (defScope s_law) := ⟨rfl, rfl, rfl, by decide +kernel, rfl, by decide +kernel, by decide +kernel⟩
structure Txt (K : PySem.W.Frag) (mg : Str → Option Value) : Prop where
  d_is_whole : Def K mg "is_whole" s_is_whole
  d_is_upto : Def K mg "is_upto" s_is_upto
  d_are_bits : Def K mg "are_bits" s_are_bits
  d_is_stand : Def K mg "is_stand" s_is_stand
  d_look_at_stand : Def K mg "look_at_stand" s_look_at_stand
  d_look_at_switch : Def K mg "look_at_switch" s_look_at_switch
  d_stands_of : Def K mg "stands_of" s_stands_of
  d_place_of : Def K mg "place_of" s_place_of
  d_ought : Def K mg "ought" s_ought
  d_wrong_ones : Def K mg "wrong_ones" s_wrong_ones
  d_heard : Def K mg "heard" s_heard
  d_slim_rule : Def K mg "slim_rule" s_slim_rule
  d_slim : Def K mg "slim" s_slim
  d_is_order : Def K mg "is_order" s_is_order
  d_rule_anew : Def K mg "rule_anew" s_rule_anew
  d_named_anew : Def K mg "named_anew" s_named_anew
  d_flipped : Def K mg "flipped" s_flipped
  d_bit_for : Def K mg "bit_for" s_bit_for
  d_told_without : Def K mg "told_without" s_told_without
  d_own_rule : Def K mg "own_rule" s_own_rule
  d_folded : Def K mg "folded" s_folded
  d_unfolded : Def K mg "unfolded" s_unfolded
  d_rests_of : Def K mg "rests_of" s_rests_of
  d__law_cell : Def K mg "_law_cell" s__law_cell
  d__law_mix : Def K mg "_law_mix" s__law_mix
  d__law_box : Def K mg "_law_box" s__law_box
  d__law_take : Def K mg "_law_take" s__law_take
  d__law_rule : Def K mg "_law_rule" s__law_rule
  d__law_change : Def K mg "_law_change" s__law_change
  d__law_names : Def K mg "_law_names" s__law_names
  d__law_small : Def K mg "_law_small" s__law_small
  k_MOST_EARS : ∃ t, mg "MOST_EARS" = some (.int 4 t)
  e_Hears : ErrT K mg "Hears"
  e_NoOrder : ErrT K mg "NoOrder"
  e_NoStand : ErrT K mg "NoStand"
  e_NoSwitch : ErrT K mg "NoSwitch"
  e_TooMany : ErrT K mg "TooMany"
  z_all : mg "all" = none
  z_any : mg "any" = none
  z_bool : mg "bool" = none
  z_dict : mg "dict" = none
  z_divmod : mg "divmod" = none
  z_enumerate : mg "enumerate" = none
  z_int : mg "int" = none
  z_isinstance : mg "isinstance" = none
  z_len : mg "len" = none
  z_list : mg "list" = none
  z_max : mg "max" = none
  z_min : mg "min" = none
  z_range : mg "range" = none
  z_set : mg "set" = none
  z_sorted : mg "sorted" = none
  z_sum : mg "sum" = none
  z_tuple : mg "tuple" = none
  z_zip : mg "zip" = none
  cat__law_small_1 : CatF K mg ["Hears", "NoSwitch", "TooMany"] "NetError"
  zz__law_small_1 : ∀ c ∈ (["Hears", "NoSwitch", "TooMany"] : List Str), ErrZ K mg c
section
variable {P : Program} {w : World} {K : PySem.W.Frag} {mg : Str → Option Value} {base : Heap}
theorem ok_is_whole (T : Txt K mg) : Glo P w K mg base "is_whole" 1 1 [] (pureF C.g_is_whole) :=
  (glo_mk (O := []) (Oc := []) (W := []) (U := []) T.d_is_whole sc_is_whole (fun f cdv A outer s H E P0 hr => (cs_one (cs_ret (ce_and (ce_isi isk_int T.z_isinstance T.z_int (ce_var 0) bo_isinstance bo_int) (ce_one (ce_not (ce_isi isk_bool T.z_isinstance T.z_bool (ce_var 0) bo_isinstance bo_bool))))))) (fun _ _ _ _ _ _ us hl => match us, hl with | [_], _ => rfl)).pure
theorem ok_is_upto (T : Txt K mg) : Glo P w K mg base "is_upto" 2 2 [] (pureF C.g_is_upto) :=
  (glo_mk (O := []) (Oc := []) (W := []) (U := []) T.d_is_upto sc_is_upto (fun f cdv A outer s H E P0 hr => (cs_one (cs_ret (ce_and (ce_call (ok_is_whole T) out2_body (hr.mono (by decide)) (ca_cons (ce_var 0) ca_nil) (alen_cons alen_nil)) (ce_one (ce_chain od_le od_lt ce_int (ce_var 0) (ce_var 1))))))) (fun _ _ _ _ _ _ us hl => match us, hl with | [_, _], _ => rfl)).pure
theorem ok_are_bits (T : Txt K mg) : Glo P w K mg base "are_bits" 3 2 [] (pureF C.g_are_bits) :=
  (glo_mk (O := []) (Oc := []) (W := []) (U := []) T.d_are_bits sc_are_bits (fun f cdv A outer s H E P0 hr => (cs_one (cs_ret (ce_and (ce_isi isk_tuple T.z_isinstance T.z_tuple (ce_var 0) bo_isinstance bo_tuple) (ce_and (ce_cmp (od_eq hr.units) (ce_callB cd_len T.z_len bo_len (ca_cons (ce_var 0) ca_nil)) (ce_var 1)) (ce_one (ce_callB (cd_all rfl) T.z_all bo_all (ca_cons (ce_comp rfl sc_are_bits.nd (ci_any (ce_var 0)) (blkOk_by (own := [("one", 2)]) (by kernel_rfl)) (fun P0 s H C cl fp => (cg_name 2 sc_are_bits.nd)) (fun s H C cl fp => cts_nil) (fun P0 s H C cl fp => (ce_call (ok_is_upto T) Out2.blk (hr.mono (by decide)) (ca_cons (ce_var 2) (ca_cons ce_int ca_nil)) (alen_cons (alen_cons alen_nil))))) ca_nil)))))))) (fun _ _ _ _ _ _ us hl => match us, hl with | [_, _], _ => rfl)).pure
theorem ok_is_stand (T : Txt K mg) : Glo P w K mg base "is_stand" 4 2 [] (pureF C.g_is_stand) :=
  (glo_mk (O := []) (Oc := []) (W := []) (U := []) T.d_is_stand sc_is_stand (fun f cdv A outer s H E P0 hr => (cs_one (cs_ret (ce_call (ok_are_bits T) out2_body (hr.mono (by decide)) (ca_cons (ce_var 1) (ca_cons (ce_callB cd_len T.z_len bo_len (ca_cons (ce_var 0) ca_nil)) ca_nil)) (alen_cons (alen_cons alen_nil)))))) (fun _ _ _ _ _ _ us hl => match us, hl with | [_, _], _ => rfl)).pure
theorem ok_look_at_stand (T : Txt K mg) : Glo P w K mg base "look_at_stand" 5 2 [] (pureF C.g_look_at_stand) :=
  (glo_mk (O := []) (Oc := []) (W := []) (U := []) T.d_look_at_stand sc_look_at_stand (fun f cdv A outer s H E P0 hr => (cs_one (cs_if (ct_not (ct_val (ce_call (ok_is_stand T) out2_body (hr.mono (by decide)) (ca_cons (ce_var 0) (ca_cons (ce_var 1) ca_nil)) (alen_cons (alen_cons alen_nil))))) (cs_one (cs_raise T.e_NoStand rfl (L2N.takes_of rfl rfl rfl rfl))) cs_nil))) (fun _ _ _ _ _ _ us hl => match us, hl with | [_, _], _ => rfl)).pure
theorem ok_look_at_switch (T : Txt K mg) : Glo P w K mg base "look_at_switch" 3 2 [] (pureF C.g_look_at_switch) :=
  (glo_mk (O := []) (Oc := []) (W := []) (U := []) T.d_look_at_switch sc_look_at_switch (fun f cdv A outer s H E P0 hr => (cs_one (cs_if (ct_not (ct_val (ce_call (ok_is_upto T) out2_body (hr.mono (by decide)) (ca_cons (ce_var 1) (ca_cons (ce_callB cd_len T.z_len bo_len (ca_cons (ce_var 0) ca_nil)) ca_nil)) (alen_cons (alen_cons alen_nil))))) (cs_one (cs_raise T.e_NoSwitch rfl (L2N.takes_of rfl rfl rfl rfl))) cs_nil))) (fun _ _ _ _ _ _ us hl => match us, hl with | [_, _], _ => rfl)).pure
theorem ok_stands_of (T : Txt K mg) : Glo P w K mg base "stands_of" 1 1 [] (pureF C.g_stands_of) :=
  (glo_mk (O := []) (Oc := []) (W := []) (U := []) T.d_stands_of sc_stands_of (fun f cdv A outer s H E P0 hr => (cs_cons (cs_asg (ce_lst (ca_cons (ce_tup ca_nil) ca_nil)) (cg_name 1 sc_stands_of.nd))
    (cs_cons (cs_for (U' := []) (vs := [2]) (passes_of rfl) rfl (ci_range1 T.z_range (ca_cons (ce_var 0) ca_nil)) (cg_name 2 sc_stands_of.nd) (cs_one (cs_asg (ce_bin od_add (ce_comp rfl sc_stands_of.nd (ci_any (ce_var 1)) (blkOk_by (own := [("stand", 3)]) (by kernel_rfl)) (fun P0 s H C cl fp => (cg_name 3 sc_stands_of.nd)) (fun s H C cl fp => cts_nil) (fun P0 s H C cl fp => (ce_bin od_add (ce_tup (ca_cons ce_int ca_nil)) (ce_var 3)))) (ce_comp rfl sc_stands_of.nd (ci_any (ce_var 1)) (blkOk_by (own := [("stand", 3)]) (by kernel_rfl)) (fun P0 s H C cl fp => (cg_name 3 sc_stands_of.nd)) (fun s H C cl fp => cts_nil) (fun P0 s H C cl fp => (ce_bin od_add (ce_tup (ca_cons ce_int ca_nil)) (ce_var 3))))) (cg_name 1 sc_stands_of.nd))))
    (cs_one (cs_ret (ce_var 1)))))) (fun _ _ _ _ _ _ us hl => match us, hl with | [_], _ => rfl)).pure
theorem ok_place_of (T : Txt K mg) : Glo P w K mg base "place_of" 1 1 [] (pureF C.g_place_of) :=
  (glo_mk (O := []) (Oc := []) (W := []) (U := []) T.d_place_of sc_place_of (fun f cdv A outer s H E P0 hr => (cs_cons (cs_asg ce_int (cg_name 1 sc_place_of.nd))
    (cs_cons (cs_for (U' := []) (vs := [2]) (passes_of rfl) rfl (ci_any (ce_var 0)) (cg_name 2 sc_place_of.nd) (cs_one (cs_asg (ce_bin od_add (ce_bin od_mul ce_int (ce_var 1)) (ce_var 2)) (cg_name 1 sc_place_of.nd))))
    (cs_one (cs_ret (ce_var 1)))))) (fun _ _ _ _ _ _ us hl => match us, hl with | [_], _ => rfl)).pure
theorem ok_ought (T : Txt K mg) : Glo P w K mg base "ought" 2 3 [] (pureF C.g_ought) :=
  (glo_mk (O := []) (Oc := []) (W := []) (U := []) T.d_ought sc_ought (fun f cdv A outer s H E P0 hr => (cs_cons (cs_asg (ce_ix (ce_var 0) (ce_var 2)) (cg_tup [3, 4] rfl (cgs_cons 3 sc_ought.nd (cgs_cons 4 sc_ought.nd cgs_nil))))
    (cs_one (cs_ret (ce_ix (ce_var 4) (ce_call (ok_place_of T) out2_body (hr.mono (by decide)) (ca_cons (ce_comp rfl sc_ought.nd (ci_any (ce_var 3)) (blkOk_by (own := [("ear", 5)]) (by kernel_rfl)) (fun P0 s H C cl fp => (cg_name 5 sc_ought.nd)) (fun s H C cl fp => cts_nil) (fun P0 s H C cl fp => (ce_ix (ce_var 1) (ce_var 5)))) ca_nil) (alen_cons alen_nil))))))) (fun _ _ _ _ _ _ us hl => match us, hl with | [_, _, _], _ => rfl)).pure
theorem ok_wrong_ones (T : Txt K mg) : Glo P w K mg base "wrong_ones" 6 2 [] (pureF C.g_wrong_ones) :=
  (glo_mk (O := []) (Oc := []) (W := []) (U := []) T.d_wrong_ones sc_wrong_ones (fun f cdv A outer s H E P0 hr => (cs_cons (cs_expr (ce_call (ok_look_at_stand T) out2_body (hr.mono (by decide)) (ca_cons (ce_var 0) (ca_cons (ce_var 1) ca_nil)) (alen_cons (alen_cons alen_nil))))
    (cs_one (cs_ret (ce_comp rfl sc_wrong_ones.nd (ci_range1 T.z_range (ca_cons (ce_callB cd_len T.z_len bo_len (ca_cons (ce_var 0) ca_nil)) ca_nil)) (blkOk_by (own := [("k", 2)]) (by kernel_rfl)) (fun P0 s H C cl fp => (cg_name 2 sc_wrong_ones.nd)) (fun s H C cl fp => (cts_one fun P0 => (ct_cmp (od_ne hr.units) (ce_call (ok_ought T) Out2.blk (hr.mono (by decide)) (ca_cons (ce_var 0) (ca_cons (ce_var 1) (ca_cons (ce_var 2) ca_nil))) (alen_cons (alen_cons (alen_cons alen_nil)))) (ce_ix (ce_var 1) (ce_var 2))))) (fun P0 s H C cl fp => (ce_var 2))))))) (fun _ _ _ _ _ _ us hl => match us, hl with | [_, _], _ => rfl)).pure
theorem ok_heard (T : Txt K mg) : Glo P w K mg base "heard" 1 1 [] (pureF C.g_heard) :=
  (glo_mk (O := []) (Oc := [3]) (W := []) (U := []) T.d_heard sc_heard (fun f cdv A outer s H E P0 hr => (cs_cons (cs_asg (ce_var 0) (cg_tup [1, 2] rfl (cgs_cons 1 sc_heard.nd (cgs_cons 2 sc_heard.nd cgs_nil))))
    (cs_cons (cs_own (i := 3) sc_heard.nd (ce_lst ca_nil))
    (cs_cons (cs_for (U' := []) (vs := [4, 5, 6]) (passes_of rfl) rfl (ci_enumG T.z_enumerate (ca_cons (ce_var 1) ca_nil)) (cg_tup [4, 5] rfl (cgs_cons 4 sc_heard.nd (cgs_cons 5 sc_heard.nd cgs_nil))) (cs_cons (cs_asg (ce_bin od_shl ce_int (ce_bin od_sub (ce_bin od_sub (ce_callB cd_len T.z_len bo_len (ca_cons (ce_var 1) ca_nil)) ce_int) (ce_var 4))) (cg_name 6 sc_heard.nd))
    (cs_one (cs_if (ct_val (ce_callB (cd_any rfl) T.z_any bo_any (ca_cons (ce_comp rfl sc_heard.nd (ci_range1 T.z_range (ca_cons (ce_callB cd_len T.z_len bo_len (ca_cons (ce_var 2) ca_nil)) ca_nil)) (blkOk_by (own := [("at", 7)]) (by kernel_rfl)) (fun P0 s H C cl fp => (cg_name 7 sc_heard.nd)) (fun s H C cl fp => cts_nil) (fun P0 s H C cl fp => (ce_cmp (od_ne hr.units) (ce_ix (ce_var 2) (ce_var 7)) (ce_ix (ce_var 2) (ce_bin od_xor (ce_var 7) (ce_var 6)))))) ca_nil))) (cs_one (cs_append (i := 3) (ce_tup (ca_cons (ce_var 4) (ca_cons (ce_var 5) ca_nil))))) cs_nil))))
    (cs_one (cs_ret (ce_own 3))))))) (fun _ _ _ _ _ _ us hl => match us, hl with | [_], _ => rfl)).pure
theorem ok_slim_rule (T : Txt K mg) : Glo P w K mg base "slim_rule" 2 1 [] (pureF C.g_slim_rule_2) :=
  (glo_mk (O := []) (Oc := [2, 4]) (W := []) (U := []) T.d_slim_rule sc_slim_rule (fun f cdv A outer s H E P0 hr => (cs_cons (cs_asg (ce_call (ok_heard T) out2_body (hr.mono (by decide)) (ca_cons (ce_var 0) ca_nil) (alen_cons alen_nil)) (cg_name 1 sc_slim_rule.nd))
    (cs_cons (cs_own (i := 2) sc_slim_rule.nd (ce_lst ca_nil))
    (cs_cons (cs_for (U' := []) (vs := [3, 4, 5, 6]) (passes_of rfl) rfl (ci_any (ce_call (ok_stands_of T) out2_body (hr.mono (by decide)) (ca_cons (ce_callB cd_len T.z_len bo_len (ca_cons (ce_var 1) ca_nil)) ca_nil) (alen_cons alen_nil))) (cg_name 3 sc_slim_rule.nd) (cs_cons (cs_own (i := 4) sc_slim_rule.nd (ce_bin od_mul (ce_lst (ca_cons ce_int ca_nil)) (ce_callB cd_len T.z_len bo_len (ca_cons (ce_ix (ce_var 0) ce_int) ca_nil))))
    (cs_cons (cs_for (U' := []) (vs := [5, 6]) (passes_of rfl) rfl (ci_zipG T.z_zip (ca_cons (ce_var 3) (ca_cons (ce_var 1) ca_nil))) (cg_mix rfl (cgm_cons (cg_name 5 sc_slim_rule.nd) (cgm_cons (cg_tup [6, 7] rfl (cgs_cons 6 sc_slim_rule.nd (cgs_cons 7 sc_slim_rule.nd cgs_nil))) cgm_nil))) (cs_one (cs_setix (i := 4) (ce_var 5) (ce_var 6))))
    (cs_one (cs_append (i := 2) (ce_ix (ce_ix (ce_var 0) ce_int) (ce_callR (ok_place_of T) out2_body (hr.mono (by decide)) (ca_cons (ce_own 4) ca_nil) (alen_cons alen_nil))))))))
    (cs_one (cs_ret (ce_tup (ca_cons (ce_callT cd_tupleF T.z_tuple bo_tuple (ca_cons (ce_comp rfl sc_slim_rule.nd (ci_any (ce_var 1)) (blkOk_by (own := [("place", 6), ("ear", 7)]) (by kernel_rfl)) (fun P0 s H C cl fp => (cg_tup [6, 7] rfl (cgs_cons 6 sc_slim_rule.nd (cgs_cons 7 sc_slim_rule.nd cgs_nil)))) (fun s H C cl fp => cts_nil) (fun P0 s H C cl fp => (ce_var 7))) ca_nil)) (ca_cons (ce_callT cd_tuple T.z_tuple bo_tuple (ca_cons (ce_own 2) ca_nil)) ca_nil))))))))) (fun _ _ _ _ _ _ us hl => match us, hl with | [_], _ => rfl)).pure
theorem ok_slim (T : Txt K mg) : Glo P w K mg base "slim" 3 1 [] (pureF C.g_slim_2) :=
  (glo_mk (O := []) (Oc := []) (W := []) (U := []) T.d_slim sc_slim (fun f cdv A outer s H E P0 hr => (cs_one (cs_ret (ce_callT cd_tuple T.z_tuple bo_tuple (ca_cons (ce_comp rfl sc_slim.nd (ci_any (ce_var 0)) (blkOk_by (own := [("rule", 1)]) (by kernel_rfl)) (fun P0 s H C cl fp => (cg_name 1 sc_slim.nd)) (fun s H C cl fp => cts_nil) (fun P0 s H C cl fp => (ce_call (ok_slim_rule T) Out2.blk (hr.mono (by decide)) (ca_cons (ce_var 1) ca_nil) (alen_cons alen_nil)))) ca_nil))))) (fun _ _ _ _ _ _ us hl => match us, hl with | [_], _ => rfl)).pure
theorem ok_is_order (T : Txt K mg) : Glo P w K mg base "is_order" 3 2 [] (pureF C.g_is_order_3) :=
  (glo_mk (O := []) (Oc := []) (W := []) (U := []) T.d_is_order sc_is_order (fun f cdv A outer s H E P0 hr => (cs_cons (cs_if (ct_w (cw_or (ct_not (ct_val (ce_isi isk_tuple T.z_isinstance T.z_tuple (ce_var 0) bo_isinstance bo_tuple))) (cw_or1 (ct_cmp (od_ne hr.units) (ce_callB cd_len T.z_len bo_len (ca_cons (ce_var 0) ca_nil)) (ce_var 1))))) (cs_one (cs_ret ce_bl)) cs_nil)
    (cs_one (cs_ret (ce_and (ce_callB (cd_all rfl) T.z_all bo_all (ca_cons (ce_comp rfl sc_is_order.nd (ci_any (ce_var 0)) (blkOk_by (own := [("one", 2)]) (by kernel_rfl)) (fun P0 s H C cl fp => (cg_name 2 sc_is_order.nd)) (fun s H C cl fp => cts_nil) (fun P0 s H C cl fp => (ce_call (ok_is_upto T) Out2.blk (hr.mono (by decide)) (ca_cons (ce_var 2) (ca_cons (ce_var 1) ca_nil)) (alen_cons (alen_cons alen_nil))))) ca_nil)) (ce_one (ce_cmp (od_eq hr.units) (ce_lenSetG rfl T.z_len T.z_set (ce_var 0)) (ce_var 1)))))))) (fun _ _ _ _ _ _ us hl => match us, hl with | [_, _], _ => rfl)).pure
theorem ok_rule_anew (T : Txt K mg) : Glo P w K mg base "rule_anew" 2 2 [] (pureF C.g_rule_anew) :=
  (glo_mk (O := []) (Oc := [5]) (W := []) (U := []) T.d_rule_anew sc_rule_anew (fun f cdv A outer s H E P0 hr => (cs_cons (cs_asg (ce_var 0) (cg_tup [2, 3] rfl (cgs_cons 2 sc_rule_anew.nd (cgs_cons 3 sc_rule_anew.nd cgs_nil))))
    (cs_cons (cs_asg (ce_callB cd_sort T.z_sorted bo_sorted (ca_cons (ce_comp rfl sc_rule_anew.nd (ci_any (ce_var 2)) (blkOk_by (own := [("ear", 8)]) (by kernel_rfl)) (fun P0 s H C cl fp => (cg_name 8 sc_rule_anew.nd)) (fun s H C cl fp => cts_nil) (fun P0 s H C cl fp => (ce_dget (Nat.lt_of_le_of_lt (Nat.add_le_add_left (by decide) _) hr.units65) (ce_var 1) (ce_var 8)))) ca_nil)) (cg_name 4 sc_rule_anew.nd))
    (cs_cons (cs_own (i := 5) sc_rule_anew.nd (ce_lst ca_nil))
    (cs_cons (cs_for (U' := []) (vs := [6, 7]) (passes_of rfl) rfl (ci_any (ce_call (ok_stands_of T) out2_body (hr.mono (by decide)) (ca_cons (ce_callB cd_len T.z_len bo_len (ca_cons (ce_var 2) ca_nil)) ca_nil) (alen_cons alen_nil))) (cg_name 6 sc_rule_anew.nd) (cs_cons (cs_asg (ce_dictZip hr.units rfl T.z_dict T.z_zip (ca_cons (ce_var 4) (ca_cons (ce_var 6) ca_nil))) (cg_name 7 sc_rule_anew.nd))
    (cs_one (cs_append (i := 5) (ce_ix (ce_var 3) (ce_call (ok_place_of T) out2_body (hr.mono (by decide)) (ca_cons (ce_comp rfl sc_rule_anew.nd (ci_any (ce_var 2)) (blkOk_by (own := [("ear", 8)]) (by kernel_rfl)) (fun P0 s H C cl fp => (cg_name 8 sc_rule_anew.nd)) (fun s H C cl fp => cts_nil) (fun P0 s H C cl fp => (ce_dget (Nat.lt_of_le_of_lt (Nat.add_le_add_left (by decide) _) hr.units65) (ce_var 7) (ce_dget (Nat.lt_of_le_of_lt (Nat.add_le_add_left (by decide) _) hr.units65) (ce_var 1) (ce_var 8))))) ca_nil) (alen_cons alen_nil)))))))
    (cs_one (cs_ret (ce_tup (ca_cons (ce_callT cd_tuple T.z_tuple bo_tuple (ca_cons (ce_var 4) ca_nil)) (ca_cons (ce_callT cd_tuple T.z_tuple bo_tuple (ca_cons (ce_own 5) ca_nil)) ca_nil)))))))))) (fun _ _ _ _ _ _ us hl => match us, hl with | [_, _], _ => rfl)).pure
theorem ok_named_anew (T : Txt K mg) : Glo P w K mg base "named_anew" 4 2 [] (pureF C.g_named_anew_2) :=
  (glo_mk (O := []) (Oc := [2]) (W := []) (U := []) T.d_named_anew sc_named_anew (fun f cdv A outer s H E P0 hr => (cs_cons (cs_if (ct_not (ct_val (ce_call (ok_is_order T) out2_body (hr.mono (by decide)) (ca_cons (ce_var 1) (ca_cons (ce_callB cd_len T.z_len bo_len (ca_cons (ce_var 0) ca_nil)) ca_nil)) (alen_cons (alen_cons alen_nil))))) (cs_one (cs_raise T.e_NoOrder rfl (L2N.takes_of rfl rfl rfl rfl))) cs_nil)
    (cs_cons (cs_dicnew (i := 2) sc_named_anew.nd)
    (cs_cons (cs_for (U' := []) (vs := [3]) (passes_of rfl) rfl (ci_enumG T.z_enumerate (ca_cons (ce_var 1) ca_nil)) (cg_tup [3, 4] rfl (cgs_cons 3 sc_named_anew.nd (cgs_cons 4 sc_named_anew.nd cgs_nil))) (cs_one (cs_dput (i := 2) (Nat.lt_of_le_of_lt (Nat.add_le_add_left (by decide) _) hr.units65) (ce_var 3) (ce_var 4))))
    (cs_one (cs_ret (ce_callT cd_tuple T.z_tuple bo_tuple (ca_cons (ce_comp rfl sc_named_anew.nd (ci_any (ce_var 1)) (blkOk_by (own := [("old", 4)]) (by kernel_rfl)) (fun P0 s H C cl fp => (cg_name 4 sc_named_anew.nd)) (fun s H C cl fp => cts_nil) (fun P0 s H C cl fp => (ce_callR (ok_rule_anew T) Out2.blk (hr.mono (by decide)) (ca_cons (ce_ix (ce_var 0) (ce_var 4)) (ca_cons (ce_own 2) ca_nil)) (alen_cons (alen_cons alen_nil))))) ca_nil)))))))) (fun _ _ _ _ _ _ us hl => match us, hl with | [_, _], _ => rfl)).pure
theorem ok_flipped (T : Txt K mg) : Glo P w K mg base "flipped" 4 2 [] (pureF C.g_flipped) :=
  (glo_mk (O := []) (Oc := [2]) (W := []) (U := []) T.d_flipped sc_flipped (fun f cdv A outer s H E P0 hr => (cs_cons (cs_expr (ce_call (ok_look_at_switch T) out2_body (hr.mono (by decide)) (ca_cons (ce_var 0) (ca_cons (ce_var 1) ca_nil)) (alen_cons (alen_cons alen_nil))))
    (cs_cons (cs_own (i := 2) sc_flipped.nd (ce_lst ca_nil))
    (cs_cons (cs_for (U' := []) (vs := [3, 4, 5, 6, 7]) (passes_of rfl) rfl (ci_enumG T.z_enumerate (ca_cons (ce_var 0) ca_nil)) (cg_mix rfl (cgm_cons (cg_name 3 sc_flipped.nd) (cgm_cons (cg_tup [4, 5] rfl (cgs_cons 4 sc_flipped.nd (cgs_cons 5 sc_flipped.nd cgs_nil))) cgm_nil))) (cs_cons (cs_asg ce_int (cg_name 6 sc_flipped.nd))
    (cs_cons (cs_if (ct_cmp od_inF (ce_var 1) (ce_var 4)) (cs_one (cs_asg (ce_bin od_shl ce_int (ce_bin od_sub (ce_bin od_sub (ce_callB cd_len T.z_len bo_len (ca_cons (ce_var 4) ca_nil)) ce_int) (ce_indexF (ce_var 4) (ce_var 1)))) (cg_name 6 sc_flipped.nd))) cs_nil)
    (cs_cons (cs_asgLc (i := 7) rfl sc_flipped.nd rfl rfl (sw_true rfl rfl rfl (by decide +kernel)) (ci_range1 T.z_range (ca_cons (ce_callB cd_len T.z_len bo_len (ca_cons (ce_var 5) ca_nil)) ca_nil)) (blkOk_by (own := [("at", 8)]) (by kernel_rfl)) (fun P0 s H C cl fp => (cg_name 8 sc_flipped.nd)) (fun s H C cl fp => cts_nil) (fun P0 s H C cl fp => (ce_ix (ce_var 5) (ce_bin od_xor (ce_var 8) (ce_var 6)))))
    (cs_cons (cs_if (ct_cmp (od_eq hr.units) (ce_var 3) (ce_var 1)) (cs_one (cs_asgLc (i := 7) rfl sc_flipped.nd rfl rfl (sw_true rfl rfl rfl (by decide +kernel)) (ci_any (ce_var 7)) (blkOk_by (own := [("bit", 9)]) (by kernel_rfl)) (fun P0 s H C cl fp => (cg_name 9 sc_flipped.nd)) (fun s H C cl fp => cts_nil) (fun P0 s H C cl fp => (ce_bin od_sub ce_int (ce_var 9))))) cs_nil)
    (cs_one (cs_append (i := 2) (ce_tup (ca_cons (ce_var 4) (ca_cons (ce_callT cd_tuple T.z_tuple bo_tuple (ca_cons (ce_var 7) ca_nil)) ca_nil))))))))))
    (cs_one (cs_ret (ce_callT cd_tuple T.z_tuple bo_tuple (ca_cons (ce_own 2) ca_nil)))))))) (fun _ _ _ _ _ _ us hl => match us, hl with | [_, _], _ => rfl)).pure
theorem ok_bit_for (T : Txt K mg) : Glo P w K mg base "bit_for" 2 2 [] (pureF C.g_bit_for) :=
  (glo_mk (O := []) (Oc := []) (W := []) (U := []) T.d_bit_for sc_bit_for (fun f cdv A outer s H E P0 hr => (cs_one (cs_ret (ce_ix (ce_ix (ce_var 0) ce_int) (ce_call (ok_place_of T) out2_body (hr.mono (by decide)) (ca_cons (ce_comp rfl sc_bit_for.nd (ci_any (ce_ix (ce_var 0) ce_int)) (blkOk_by (own := [("ear", 2)]) (by kernel_rfl)) (fun P0 s H C cl fp => (cg_name 2 sc_bit_for.nd)) (fun s H C cl fp => cts_nil) (fun P0 s H C cl fp => (ce_dget (Nat.lt_of_le_of_lt (Nat.add_le_add_left (by decide) _) hr.units65) (ce_var 1) (ce_var 2)))) ca_nil) (alen_cons alen_nil)))))) (fun _ _ _ _ _ _ us hl => match us, hl with | [_, _], _ => rfl)).pure
theorem ok_told_without (T : Txt K mg) : Glo P w K mg base "told_without" 3 3 [] (pureF C.g_told_without_2) :=
  (glo_mk (O := []) (Oc := [4, 6]) (W := []) (U := []) T.d_told_without sc_told_without (fun f cdv A outer s H E P0 hr => (cs_cons (cs_if (ct_cmp od_ninF (ce_var 1) (ce_ix (ce_var 0) ce_int)) (cs_one (cs_ret (ce_var 0))) cs_nil)
    (cs_cons (cs_asg (ce_setMinG rfl T.z_sorted T.z_set (ce_bin od_addG (ce_ix (ce_var 0) ce_int) (ce_ix (ce_var 2) ce_int)) (ce_lst (ca_cons (ce_var 1) ca_nil))) (cg_name 3 sc_told_without.nd))
    (cs_cons (cs_own (i := 4) sc_told_without.nd (ce_lst ca_nil))
    (cs_cons (cs_for (U' := []) (vs := [5, 6]) (passes_of rfl) rfl (ci_any (ce_call (ok_stands_of T) out2_body (hr.mono (by decide)) (ca_cons (ce_callB cd_len T.z_len bo_len (ca_cons (ce_var 3) ca_nil)) ca_nil) (alen_cons alen_nil))) (cg_name 5 sc_told_without.nd) (cs_cons (cs_ownDZ (i := 6) hr.units rfl T.z_dict T.z_zip sc_told_without.nd (ca_cons (ce_var 3) (ca_cons (ce_var 5) ca_nil)))
    (cs_cons (cs_dput (i := 6) (Nat.lt_of_le_of_lt (Nat.add_le_add_left (by decide) _) hr.units65) (ce_callR (ok_bit_for T) out2_body (hr.mono (by decide)) (ca_cons (ce_var 2) (ca_cons (ce_own 6) ca_nil)) (alen_cons (alen_cons alen_nil))) (ce_var 1))
    (cs_one (cs_append (i := 4) (ce_callR (ok_bit_for T) out2_body (hr.mono (by decide)) (ca_cons (ce_var 0) (ca_cons (ce_own 6) ca_nil)) (alen_cons (alen_cons alen_nil))))))))
    (cs_one (cs_ret (ce_tup (ca_cons (ce_callT cd_tupleF T.z_tuple bo_tuple (ca_cons (ce_var 3) ca_nil)) (ca_cons (ce_callT cd_tuple T.z_tuple bo_tuple (ca_cons (ce_own 4) ca_nil)) ca_nil)))))))))) (fun _ _ _ _ _ _ us hl => match us, hl with | [_, _, _], _ => rfl)).pure
theorem ok_own_rule (T : Txt K mg) : Glo P w K mg base "own_rule" 4 2 [] (pureF C.g_own_rule_2) :=
  (glo_mk (O := []) (Oc := []) (W := []) (U := []) T.d_own_rule sc_own_rule (fun f cdv A outer s H E P0 hr => (cs_cons (cs_expr (ce_call (ok_look_at_switch T) out2_body (hr.mono (by decide)) (ca_cons (ce_var 0) (ca_cons (ce_var 1) ca_nil)) (alen_cons (alen_cons alen_nil))))
    (cs_cons (cs_asg (ce_call (ok_slim_rule T) out2_body (hr.mono (by decide)) (ca_cons (ce_ix (ce_var 0) (ce_var 1)) ca_nil) (alen_cons alen_nil)) (cg_name 2 sc_own_rule.nd))
    (cs_cons (cs_if (ct_w (cw_or (ct_cmp od_inF (ce_var 1) (ce_ix (ce_var 2) ce_int)) (cw_or1 (ct_cmp (od_eq hr.units) (ce_callB cd_len T.z_len bo_len (ca_cons (ce_var 0) ca_nil)) ce_int)))) (cs_one (cs_raise T.e_Hears rfl (L2N.takes_of rfl rfl rfl rfl))) cs_nil)
    (cs_one (cs_ret (ce_var 2))))))) (fun _ _ _ _ _ _ us hl => match us, hl with | [_, _], _ => rfl)).pure
theorem ok_folded (T : Txt K mg) : Glo P w K mg base "folded" 5 2 [] (pureF C.g_folded_2) :=
  (glo_mk (O := []) (Oc := [3]) (W := []) (U := []) T.d_folded sc_folded (fun f cdv A outer s H E P0 hr => (cs_cons (cs_asg (ce_call (ok_own_rule T) out2_body (hr.mono (by decide)) (ca_cons (ce_var 0) (ca_cons (ce_var 1) ca_nil)) (alen_cons (alen_cons alen_nil))) (cg_name 2 sc_folded.nd))
    (cs_cons (cs_own (i := 3) sc_folded.nd (ce_lst ca_nil))
    (cs_cons (cs_for (U' := []) (vs := [4, 5, 6, 7]) (passes_of rfl) rfl (ci_enumG T.z_enumerate (ca_cons (ce_var 0) ca_nil)) (cg_tup [4, 5] rfl (cgs_cons 4 sc_folded.nd (cgs_cons 5 sc_folded.nd cgs_nil))) (cs_one (cs_if (ct_cmp (od_ne hr.units) (ce_var 4) (ce_var 1)) (cs_cons (cs_asg (ce_call (ok_slim_rule T) out2_body (hr.mono (by decide)) (ca_cons (ce_call (ok_told_without T) out2_body (hr.mono (by decide)) (ca_cons (ce_var 5) (ca_cons (ce_var 1) (ca_cons (ce_var 2) ca_nil))) (alen_cons (alen_cons (alen_cons alen_nil)))) ca_nil) (alen_cons alen_nil)) (cg_tup [6, 7] rfl (cgs_cons 6 sc_folded.nd (cgs_cons 7 sc_folded.nd cgs_nil))))
    (cs_cons (cs_if (ct_cmp od_gt (ce_callB cd_len T.z_len bo_len (ca_cons (ce_var 6) ca_nil)) (ce_globI T.k_MOST_EARS)) (cs_one (cs_raise T.e_TooMany rfl (L2N.takes_of rfl rfl rfl rfl))) cs_nil)
    (cs_one (cs_append (i := 3) (ce_tup (ca_cons (ce_callT cd_tuple T.z_tuple bo_tuple (ca_cons (ce_comp rfl sc_folded.nd (ci_any (ce_var 6)) (blkOk_by (own := [("ear", 8)]) (by kernel_rfl)) (fun P0 s H C cl fp => (cg_name 8 sc_folded.nd)) (fun s H C cl fp => cts_nil) (fun P0 s H C cl fp => (ce_bin od_sub (ce_var 8) (ce_callT cd_int T.z_int bo_int (ca_cons (ce_cmp od_gt (ce_var 8) (ce_var 1)) ca_nil))))) ca_nil)) (ca_cons (ce_var 7) ca_nil))))))) cs_nil)))
    (cs_one (cs_ret (ce_callT cd_tuple T.z_tuple bo_tuple (ca_cons (ce_own 3) ca_nil)))))))) (fun _ _ _ _ _ _ us hl => match us, hl with | [_, _], _ => rfl)).pure
theorem ok_unfolded (T : Txt K mg) : Glo P w K mg base "unfolded" 6 3 [] (pureF C.g_unfolded_2) :=
  (glo_mk (O := []) (Oc := []) (W := []) (U := []) T.d_unfolded sc_unfolded (fun f cdv A outer s H E P0 hr => (cs_cons (cs_expr (ce_call (ok_look_at_stand T) out2_body (hr.mono (by decide)) (ca_cons (ce_call (ok_folded T) out2_body (hr.mono (by decide)) (ca_cons (ce_var 0) (ca_cons (ce_var 1) ca_nil)) (alen_cons (alen_cons alen_nil))) (ca_cons (ce_var 2) ca_nil)) (alen_cons (alen_cons alen_nil))))
    (cs_cons (cs_asg (ce_bin od_add (ce_bin od_add (ce_slice (ce_var 2) co_none (co_some (ce_var 1))) (ce_tup (ca_cons ce_int ca_nil))) (ce_slice (ce_var 2) (co_some (ce_var 1)) co_none)) (cg_name 3 sc_unfolded.nd))
    (cs_one (cs_ret (ce_bin od_add (ce_bin od_add (ce_slice (ce_var 2) co_none (co_some (ce_var 1))) (ce_tup (ca_cons (ce_call (ok_ought T) out2_body (hr.mono (by decide)) (ca_cons (ce_var 0) (ca_cons (ce_var 3) (ca_cons (ce_var 1) ca_nil))) (alen_cons (alen_cons (alen_cons alen_nil)))) ca_nil))) (ce_slice (ce_var 2) (co_some (ce_var 1)) co_none))))))) (fun _ _ _ _ _ _ us hl => match us, hl with | [_, _, _], _ => rfl)).pure
theorem ok_rests_of (T : Txt K mg) : Glo P w K mg base "rests_of" 7 1 [] (pureF C.g_rests_of) :=
  (glo_mk (O := []) (Oc := []) (W := []) (U := []) T.d_rests_of sc_rests_of (fun f cdv A outer s H E P0 hr => (cs_one (cs_ret (ce_comp rfl sc_rests_of.nd (ci_any (ce_call (ok_stands_of T) out2_body (hr.mono (by decide)) (ca_cons (ce_callB cd_len T.z_len bo_len (ca_cons (ce_var 0) ca_nil)) ca_nil) (alen_cons alen_nil))) (blkOk_by (own := [("stand", 1)]) (by kernel_rfl)) (fun P0 s H C cl fp => (cg_name 1 sc_rests_of.nd)) (fun s H C cl fp => (cts_one fun P0 => (ct_cmp (od_eq hr.units) (ce_call (ok_wrong_ones T) Out2.blk (hr.mono (by decide)) (ca_cons (ce_var 0) (ca_cons (ce_var 1) ca_nil)) (alen_cons (alen_cons alen_nil))) (ce_lst ca_nil)))) (fun P0 s H C cl fp => (ce_var 1)))))) (fun _ _ _ _ _ _ us hl => match us, hl with | [_], _ => rfl)).pure
theorem ok__law_cell (T : Txt K mg) : Glo P w K mg base "_law_cell" 1 2 [] (pureF C.g__law_cell) :=
  (glo_mk (O := []) (Oc := []) (W := []) (U := []) T.d__law_cell sc__law_cell (fun f cdv A outer s H E P0 hr => (cs_cons (cs_if (ct_cmp od_lt (ce_var 1) (ce_callB cd_len T.z_len bo_len (ca_cons (ce_var 0) ca_nil))) (cs_one (cs_ret (ce_ix (ce_var 0) (ce_var 1)))) cs_nil)
    (cs_one (cs_ret (ce_bin od_add (ce_bin od_mul ce_int (ce_var 1)) ce_int))))) (fun _ _ _ _ _ _ us hl => match us, hl with | [_, _], _ => rfl)).pure
theorem ok__law_mix (T : Txt K mg) : Glo P w K mg base "_law_mix" 1 2 [] (pureF C.g__law_mix) :=
  (glo_mk (O := []) (Oc := []) (W := []) (U := []) T.d__law_mix sc__law_mix (fun f cdv A outer s H E P0 hr => (cs_cons (cs_asg (ce_bin od_add (ce_bin od_mul (ce_bin od_add (ce_var 0) ce_int) ce_int) (ce_bin od_mul ce_int (ce_var 1))) (cg_name 2 sc__law_mix.nd))
    (cs_cons (cs_asg (ce_bin od_add (ce_bin od_mod (ce_bin od_mul (ce_var 2) (ce_var 2)) ce_int) (ce_var 1)) (cg_name 2 sc__law_mix.nd))
    (cs_one (cs_ret (ce_bin od_mod (ce_bin od_mul (ce_var 2) (ce_bin od_add (ce_var 2) ce_int)) ce_int)))))) (fun _ _ _ _ _ _ us hl => match us, hl with | [_, _], _ => rfl)).pure
theorem ok__law_box (T : Txt K mg) : Glo P w K mg base "_law_box" 2 2 [] (pureF C.g__law_box) :=
  (glo_mk (O := []) (Oc := []) (W := []) (U := []) T.d__law_box sc__law_box (fun f cdv A outer s H E P0 hr => (cs_cons (cs_asg (ce_call (ok__law_cell T) out2_body (hr.mono (by decide)) (ca_cons (ce_var 0) (ca_cons (ce_var 1) ca_nil)) (alen_cons (alen_cons alen_nil))) (cg_name 2 sc__law_box.nd))
    (cs_cons (cs_if (ct_cmp (od_eq hr.units) (ce_bin od_mod (ce_var 2) ce_int) ce_int) (cs_one (cs_ret (ce_lst (ca_cons (ce_bin od_fdiv (ce_var 2) ce_int) ca_nil)))) cs_nil)
    (cs_cons (cs_asg ce_int (cg_name 3 sc__law_box.nd))
    (cs_cons (cs_for (U' := []) (vs := [4]) (passes_of rfl) rfl (ci_range1 T.z_range (ca_cons ce_int ca_nil)) (cg_name 4 sc__law_box.nd) (cs_one (cs_asg (ce_bin od_add (ce_bin od_mul (ce_var 3) ce_int) (ce_call (ok__law_mix T) out2_body (hr.mono (by decide)) (ca_cons (ce_var 2) (ca_cons (ce_var 4) ca_nil)) (alen_cons (alen_cons alen_nil)))) (cg_name 3 sc__law_box.nd))))
    (cs_one (cs_ret (ce_lst (ca_cons (ce_var 3) ca_nil))))))))) (fun _ _ _ _ _ _ us hl => match us, hl with | [_, _], _ => rfl)).pure
theorem ok__law_take (T : Txt K mg) : Glo P w K mg base "_law_take" 1 2 [0] C.g__law_take :=
  (glo_mk (O := [0]) (Oc := [0]) (W := []) (U := [0]) T.d__law_take sc__law_take (fun f cdv A outer s H E P0 hr => (cs_cons (cs_asg (ce_callB cd_divmod T.z_divmod bo_divmod (ca_cons (ce_ix (ce_own 0) ce_int) (ca_cons (ce_var 1) ca_nil))) (cg_tup [2, 3] rfl (cgs_cons 2 sc__law_take.nd (cgs_cons 3 sc__law_take.nd cgs_nil))))
    (cs_cons (cs_setix (i := 0) (ce_var 2) ce_int)
    (cs_one (cs_ret (ce_var 3)))))) (fun _ _ _ _ _ _ us hl => match us, hl with | [_, _], _ => rfl))
theorem ok__law_rule (T : Txt K mg) : Glo P w K mg base "_law_rule" 2 2 [0] C.g__law_rule_3 :=
  (glo_mk (O := [0]) (Oc := [0, 7]) (W := [0]) (U := [0]) T.d__law_rule sc__law_rule (fun f cdv A outer s H E P0 hr => (cs_cons (cs_asg (ce_callT cd_tupleF T.z_tuple bo_tuple (ca_cons (ce_slice (ce_comp rfl sc__law_rule.nd (ci_range1 T.z_range (ca_cons (ce_var 1) ca_nil)) (blkOk_by (own := [("j", 9)]) (by kernel_rfl)) (fun P0 s H C cl fp => (cg_name 9 sc__law_rule.nd)) (fun s H C cl fp => (cts_one fun P0 => (ct_cmp (od_eq hr.units) (ce_callIO (ok__law_take T) [(0, 0)] Out2.blk (hr.mono (by decide)) (ca_cons (ce_own 0) (ca_cons ce_int ca_nil)) (alen_cons (alen_cons alen_nil))) ce_int))) (fun P0 s H C cl fp => (ce_var 9))) co_none (co_some ce_int)) ca_nil)) (cg_name 2 sc__law_rule.nd))
    (cs_cons (cs_asg (ce_bin od_shl ce_int (ce_callB cd_len T.z_len bo_len (ca_cons (ce_var 2) ca_nil))) (cg_name 3 sc__law_rule.nd))
    (cs_cons (cs_if (ct_cmp od_gt (ce_callIO (ok__law_take T) [(0, 0)] out2_body (hr.mono (by decide)) (ca_cons (ce_own 0) (ca_cons ce_int ca_nil)) (alen_cons (alen_cons alen_nil))) ce_int) (cs_cons (cs_asg (ce_callIO (ok__law_take T) [(0, 0)] out2_body (hr.mono (by decide)) (ca_cons (ce_own 0) (ca_cons (ce_bin od_shl ce_int (ce_var 3)) ca_nil)) (alen_cons (alen_cons alen_nil))) (cg_name 4 sc__law_rule.nd))
    (cs_one (cs_ret (ce_tup (ca_cons (ce_var 2) (ca_cons (ce_callT cd_tuple T.z_tuple bo_tuple (ca_cons (ce_comp rfl sc__law_rule.nd (ci_range1 T.z_range (ca_cons (ce_var 3) ca_nil)) (blkOk_by (own := [("place", 8)]) (by kernel_rfl)) (fun P0 s H C cl fp => (cg_name 8 sc__law_rule.nd)) (fun s H C cl fp => cts_nil) (fun P0 s H C cl fp => (ce_bin od_and (ce_bin od_shr (ce_var 4) (ce_var 8)) ce_int))) ca_nil)) ca_nil)))))) cs_nil)
    (cs_cons (cs_asg (ce_callIO (ok__law_take T) [(0, 0)] out2_body (hr.mono (by decide)) (ca_cons (ce_own 0) (ca_cons (ce_var 3) ca_nil)) (alen_cons (alen_cons alen_nil))) (cg_name 5 sc__law_rule.nd))
    (cs_cons (cs_asg (ce_callIO (ok__law_take T) [(0, 0)] out2_body (hr.mono (by decide)) (ca_cons (ce_own 0) (ca_cons (ce_bin od_add (ce_callB cd_len T.z_len bo_len (ca_cons (ce_var 2) ca_nil)) ce_int) ca_nil)) (alen_cons (alen_cons alen_nil))) (cg_name 6 sc__law_rule.nd))
    (cs_cons (cs_own (i := 7) sc__law_rule.nd (ce_lst ca_nil))
    (cs_cons (cs_for (U' := [0]) (vs := [8]) (passes_of rfl) rfl (ci_range1 T.z_range (ca_cons (ce_var 3) ca_nil)) (cg_name 8 sc__law_rule.nd) (cs_one (cs_append (i := 7) (ce_callT cd_int T.z_int bo_int (ca_cons (ce_cmp od_ge (ce_callB (cd_sum rfl) T.z_sum bo_sum (ca_cons (ce_comp rfl sc__law_rule.nd (ci_range1 T.z_range (ca_cons (ce_callB cd_len T.z_len bo_len (ca_cons (ce_var 2) ca_nil)) ca_nil)) (blkOk_by (own := [("j", 9)]) (by kernel_rfl)) (fun P0 s H C cl fp => (cg_name 9 sc__law_rule.nd)) (fun s H C cl fp => cts_nil) (fun P0 s H C cl fp => (ce_bin od_and (ce_bin od_shr (ce_bin od_xor (ce_var 8) (ce_var 5)) (ce_var 9)) ce_int))) ca_nil)) (ce_var 6)) ca_nil)))))
    (cs_one (cs_ret (ce_tup (ca_cons (ce_var 2) (ca_cons (ce_callT cd_tuple T.z_tuple bo_tuple (ca_cons (ce_own 7) ca_nil)) ca_nil))))))))))))) (fun _ _ _ _ _ _ us hl => match us, hl with | [_, _], _ => rfl))
theorem ok__law_change (T : Txt K mg) : Glo P w K mg base "_law_change" 1 2 [] (pureF C.g__law_change) :=
  (glo_mk (O := []) (Oc := []) (W := []) (U := []) T.d__law_change sc__law_change (fun f cdv A outer s H E P0 hr => (cs_one (cs_ret (ce_bin od_add (ce_bin od_add (ce_slice (ce_var 0) co_none (co_some (ce_var 1))) (ce_tup (ca_cons (ce_bin od_sub ce_int (ce_ix (ce_var 0) (ce_var 1))) ca_nil))) (ce_slice (ce_var 0) (co_some (ce_bin od_add (ce_var 1) ce_int)) co_none))))) (fun _ _ _ _ _ _ us hl => match us, hl with | [_, _], _ => rfl)).pure
theorem ok__law_names (T : Txt K mg) : Glo P w K mg base "_law_names" 2 2 [0] C.g__law_names_2 :=
  (glo_mk (O := [0]) (Oc := [0, 2, 3]) (W := [0, 2]) (U := [0]) T.d__law_names sc__law_names (fun f cdv A outer s H E P0 hr => (cs_cons (cs_own (i := 2) sc__law_names.nd (ce_lrg1 rfl T.z_list T.z_range (ce_var 1)))
    (cs_cons (cs_own (i := 3) sc__law_names.nd (ce_lst ca_nil))
    (cs_cons (cs_for (U' := [0]) (vs := [4]) (passes_of rfl) rfl (ci_range1 T.z_range (ca_cons (ce_var 1) ca_nil)) (cg_name 4 sc__law_names.nd) (cs_one (cs_append (i := 3) (ce_popAt (i := 2) (ce_callIO (ok__law_take T) [(0, 0)] out2_body (hr.mono (by decide)) (ca_cons (ce_own 0) (ca_cons (ce_callB cd_len T.z_len bo_len (ca_cons (ce_own 2) ca_nil)) ca_nil)) (alen_cons (alen_cons alen_nil)))))))
    (cs_one (cs_ret (ce_callT cd_tupleF T.z_tuple bo_tuple (ca_cons (ce_own 3) ca_nil)))))))) (fun _ _ _ _ _ _ us hl => match us, hl with | [_, _], _ => rfl))
theorem ok__law_small (T : Txt K mg) : Glo P w K mg base "_law_small" 6 2 [] (pureF C.g__law_small) :=
  (glo_mk (O := []) (Oc := []) (W := []) (U := []) T.d__law_small sc__law_small (fun f cdv A outer s H E P0 hr => (cs_cons (cs_asg ce_non (cg_name 2 sc__law_small.nd))
    (cs_cons (cs_tryN (cl := ["Hears", "NoSwitch", "TooMany"]) (tm := C.w__law_small_1) (h := C.h__law_small_1) T.cat__law_small_1 (fun Ws pn xe tk => (cb_one (cb_asg (i := 2) sc__law_small.nd (cx_call (ok_folded T) tk (hr.mono (by decide)) (ca_cons (ce_var 0) (ca_cons (ce_var 1) ca_nil)) (alen_cons (alen_cons alen_nil)))))) (fun a oe pn => (cs_one (cs_asg ce_non (cg_name 2 sc__law_small.nd)))))
    (cs_one (cs_ret (ce_var 2)))))) (fun _ _ _ _ _ _ us hl => match us, hl with | [_, _], _ => rfl)).pure
theorem ok_law (T : Txt K mg) {f : Addr} {fd : FuncData} (F : Fun K "law" "law" s_law f fd) : FnOk P w K mg base (L2N.CX P w) 8 f fd ["script"] (spD K mg 1 [] (pureF C.g_law_k95)) :=
  law_fn (Oc := [2]) (W := [2]) F sc_law (fun f cdv A outer s H E P0 hr => (cs_cons (cs_for (U' := []) (vs := [1, 2, 3, 4, 5, 6, 7, 8, 9, 10, 11]) (passes_of rfl) rfl (ci_range1 T.z_range (ca_cons (ce_callB (cd_max rfl) T.z_max bo_max (ca_cons ce_int (ca_cons (ce_callB (cd_min rfl) T.z_min bo_min (ca_cons (ce_callB cd_len T.z_len bo_len (ca_cons (ce_var 0) ca_nil)) (ca_cons ce_int ca_nil))) ca_nil))) ca_nil)) (cg_name 1 sc_law.nd) (cs_cons (cs_own (i := 2) sc_law.nd (ce_call (ok__law_box T) out2_body (hr.mono (by decide)) (ca_cons (ce_var 0) (ca_cons (ce_var 1) ca_nil)) (alen_cons (alen_cons alen_nil))))
    (cs_cons (cs_asg (ce_bin od_add ce_int (ce_callIO (ok__law_take T) [(0, 2)] out2_body (hr.mono (by decide)) (ca_cons (ce_own 2) (ca_cons ce_int ca_nil)) (alen_cons (alen_cons alen_nil)))) (cg_name 3 sc_law.nd))
    (cs_cons (cs_asg (ce_callT cd_tuple T.z_tuple bo_tuple (ca_cons (ce_comp rfl sc_law.nd (ci_range1 T.z_range (ca_cons (ce_var 3) ca_nil)) (blkOk_by (own := [("name", 6)]) (by kernel_rfl)) (fun P0 s H C cl fp => (cg_name 6 sc_law.nd)) (fun s H C cl fp => cts_nil) (fun P0 s H C cl fp => (ce_callIO (ok__law_rule T) [(0, 2)] Out2.blk (hr.mono (by decide)) (ca_cons (ce_own 2) (ca_cons (ce_var 3) ca_nil)) (alen_cons (alen_cons alen_nil))))) ca_nil)) (cg_name 4 sc_law.nd))
    (cs_cons (cs_asg (ce_call (ok_rests_of T) out2_body (hr.mono (by decide)) (ca_cons (ce_var 4) ca_nil) (alen_cons alen_nil)) (cg_name 5 sc_law.nd))
    (cs_cons (cs_for (U' := []) (vs := [6, 7]) (passes_of rfl) rfl (ci_range1 T.z_range (ca_cons (ce_var 3) ca_nil)) (cg_name 6 sc_law.nd) (cs_cons (cs_asg (ce_call (ok__law_small T) out2_body (hr.mono (by decide)) (ca_cons (ce_var 4) (ca_cons (ce_var 6) ca_nil)) (alen_cons (alen_cons alen_nil))) (cg_name 7 sc_law.nd))
    (cs_one (cs_if (ct_cmp od_isnot (ce_var 7) ce_non) (cs_one (cs_if (ct_cmp (od_ne hr.units) (ce_callB cd_sort T.z_sorted bo_sorted (ca_cons (ce_comp rfl sc_law.nd (ci_any (ce_call (ok_rests_of T) out2_body (hr.mono (by decide)) (ca_cons (ce_var 7) ca_nil) (alen_cons alen_nil))) (blkOk_by (own := [("stand", 13)]) (by kernel_rfl)) (fun P0 s H C cl fp => (cg_name 13 sc_law.nd)) (fun s H C cl fp => cts_nil) (fun P0 s H C cl fp => (ce_call (ok_unfolded T) Out2.blk (hr.mono (by decide)) (ca_cons (ce_var 4) (ca_cons (ce_var 6) (ca_cons (ce_var 13) ca_nil))) (alen_cons (alen_cons (alen_cons alen_nil)))))) ca_nil)) (ce_var 5)) (cs_one (cs_ret ce_bl)) cs_nil)) cs_nil))))
    (cs_cons (cs_asg (ce_callIO (ok__law_take T) [(0, 2)] out2_body (hr.mono (by decide)) (ca_cons (ce_own 2) (ca_cons (ce_var 3) ca_nil)) (alen_cons (alen_cons alen_nil))) (cg_name 6 sc_law.nd))
    (cs_cons (cs_asg (ce_call (ok_flipped T) out2_body (hr.mono (by decide)) (ca_cons (ce_var 4) (ca_cons (ce_var 6) ca_nil)) (alen_cons (alen_cons alen_nil))) (cg_name 8 sc_law.nd))
    (cs_cons (cs_if (ct_w (cw_or (ct_cmp (od_ne hr.units) (ce_callB cd_sort T.z_sorted bo_sorted (ca_cons (ce_comp rfl sc_law.nd (ci_any (ce_var 5)) (blkOk_by (own := [("stand", 13)]) (by kernel_rfl)) (fun P0 s H C cl fp => (cg_name 13 sc_law.nd)) (fun s H C cl fp => cts_nil) (fun P0 s H C cl fp => (ce_call (ok__law_change T) Out2.blk (hr.mono (by decide)) (ca_cons (ce_var 13) (ca_cons (ce_var 6) ca_nil)) (alen_cons (alen_cons alen_nil))))) ca_nil)) (ce_call (ok_rests_of T) out2_body (hr.mono (by decide)) (ca_cons (ce_var 8) ca_nil) (alen_cons alen_nil))) (cw_or1 (ct_cmp (od_ne hr.units) (ce_call (ok_flipped T) out2_body (hr.mono (by decide)) (ca_cons (ce_var 8) (ca_cons (ce_var 6) ca_nil)) (alen_cons (alen_cons alen_nil))) (ce_var 4))))) (cs_one (cs_ret ce_bl)) cs_nil)
    (cs_cons (cs_asg (ce_callIO (ok__law_names T) [(0, 2)] out2_body (hr.mono (by decide)) (ca_cons (ce_own 2) (ca_cons (ce_var 3) ca_nil)) (alen_cons (alen_cons alen_nil))) (cg_name 9 sc_law.nd))
    (cs_cons (cs_asg (ce_call (ok_named_anew T) out2_body (hr.mono (by decide)) (ca_cons (ce_var 4) (ca_cons (ce_var 9) ca_nil)) (alen_cons (alen_cons alen_nil))) (cg_name 10 sc_law.nd))
    (cs_cons (cs_if (ct_cmp (od_ne hr.units) (ce_callB cd_sort T.z_sorted bo_sorted (ca_cons (ce_comp rfl sc_law.nd (ci_any (ce_var 5)) (blkOk_by (own := [("stand", 13)]) (by kernel_rfl)) (fun P0 s H C cl fp => (cg_name 13 sc_law.nd)) (fun s H C cl fp => cts_nil) (fun P0 s H C cl fp => (ce_callT cd_tuple T.z_tuple bo_tuple (ca_cons (ce_comp rfl sc_law.nd (ci_any (ce_var 9)) (blkOk_by (own := [("old", 12)]) (by kernel_rfl)) (fun P0 s H C cl fp => (cg_name 12 sc_law.nd)) (fun s H C cl fp => cts_nil) (fun P0 s H C cl fp => (ce_ix (ce_var 13) (ce_var 12)))) ca_nil)))) ca_nil)) (ce_call (ok_rests_of T) out2_body (hr.mono (by decide)) (ca_cons (ce_var 10) ca_nil) (alen_cons alen_nil))) (cs_one (cs_ret ce_bl)) cs_nil)
    (cs_cons (cs_asg (ce_callT cd_tupleF T.z_tuple bo_tuple (ca_cons (ce_comp rfl sc_law.nd (ci_range1 T.z_range (ca_cons (ce_var 3) ca_nil)) (blkOk_by (own := [("old", 12)]) (by kernel_rfl)) (fun P0 s H C cl fp => (cg_name 12 sc_law.nd)) (fun s H C cl fp => cts_nil) (fun P0 s H C cl fp => (ce_indexF (ce_var 9) (ce_var 12)))) ca_nil)) (cg_name 11 sc_law.nd))
    (cs_one (cs_if (ct_w (cw_or (ct_cmp (od_ne hr.units) (ce_call (ok_named_anew T) out2_body (hr.mono (by decide)) (ca_cons (ce_var 10) (ca_cons (ce_var 11) ca_nil)) (alen_cons (alen_cons alen_nil))) (ce_var 4)) (cw_or1 (ct_cmp (od_ne hr.units) (ce_call (ok_rests_of T) out2_body (hr.mono (by decide)) (ca_cons (ce_call (ok_slim T) out2_body (hr.mono (by decide)) (ca_cons (ce_var 4) ca_nil) (alen_cons alen_nil)) ca_nil) (alen_cons alen_nil)) (ce_var 5))))) (cs_one (cs_ret ce_bl)) cs_nil)))))))))))))))
    (cs_one (cs_ret ce_bl))))
end
end K95

namespace K95
theorem good_law : Y.Good C.g_law_k95 63 := H.good_k95
end K95

namespace K95
open PySem PySem.Spec PyProof.Rows L2 Y
theorem all {l : PySem.W.OpenLaw} {w : World} {K : PySem.W.Frag} {h : Heap} {mg : Str → Option Value} {fa : Addr} (X : K.In h) (G : h.Ns mainGlobals mg) (hfa : mg "law" = some (.ref fa)) (hg : Good C.g_law_k95 63)
{f0 : Addr} {od0 an0 : Option Addr} {sl0 : Array (Option Value)} {oc0 kV0 dc0 pm0 cd0 ct0 : Value}
    (a0 : PySem.W.nsIn K mainGlobals "is_whole" = some (some (.ref f0))) (l0 : K.lookup f0 = some ⟨oc0, od0, .func (PySem.W.fnOf "is_whole" "is_whole" (defArgs s_is_whole) (defBody s_is_whole) (defScope s_is_whole) .none kV0 dc0 pm0 an0 cd0 ct0), sl0⟩) (c0 : PySem.W.codeIn K cd0 "is_whole" = true) (k0 : PySem.W.keepIn K (.ref f0) = true)
{f1 : Addr} {od1 an1 : Option Addr} {sl1 : Array (Option Value)} {oc1 kV1 dc1 pm1 cd1 ct1 : Value}
    (a1 : PySem.W.nsIn K mainGlobals "is_upto" = some (some (.ref f1))) (l1 : K.lookup f1 = some ⟨oc1, od1, .func (PySem.W.fnOf "is_upto" "is_upto" (defArgs s_is_upto) (defBody s_is_upto) (defScope s_is_upto) .none kV1 dc1 pm1 an1 cd1 ct1), sl1⟩) (c1 : PySem.W.codeIn K cd1 "is_upto" = true) (k1 : PySem.W.keepIn K (.ref f1) = true)
{f2 : Addr} {od2 an2 : Option Addr} {sl2 : Array (Option Value)} {oc2 kV2 dc2 pm2 cd2 ct2 : Value}
    (a2 : PySem.W.nsIn K mainGlobals "are_bits" = some (some (.ref f2))) (l2 : K.lookup f2 = some ⟨oc2, od2, .func (PySem.W.fnOf "are_bits" "are_bits" (defArgs s_are_bits) (defBody s_are_bits) (defScope s_are_bits) .none kV2 dc2 pm2 an2 cd2 ct2), sl2⟩) (c2 : PySem.W.codeIn K cd2 "are_bits" = true) (k2 : PySem.W.keepIn K (.ref f2) = true)
{f3 : Addr} {od3 an3 : Option Addr} {sl3 : Array (Option Value)} {oc3 kV3 dc3 pm3 cd3 ct3 : Value}
    (a3 : PySem.W.nsIn K mainGlobals "is_stand" = some (some (.ref f3))) (l3 : K.lookup f3 = some ⟨oc3, od3, .func (PySem.W.fnOf "is_stand" "is_stand" (defArgs s_is_stand) (defBody s_is_stand) (defScope s_is_stand) .none kV3 dc3 pm3 an3 cd3 ct3), sl3⟩) (c3 : PySem.W.codeIn K cd3 "is_stand" = true) (k3 : PySem.W.keepIn K (.ref f3) = true)
{f4 : Addr} {od4 an4 : Option Addr} {sl4 : Array (Option Value)} {oc4 kV4 dc4 pm4 cd4 ct4 : Value}
    (a4 : PySem.W.nsIn K mainGlobals "look_at_stand" = some (some (.ref f4))) (l4 : K.lookup f4 = some ⟨oc4, od4, .func (PySem.W.fnOf "look_at_stand" "look_at_stand" (defArgs s_look_at_stand) (defBody s_look_at_stand) (defScope s_look_at_stand) .none kV4 dc4 pm4 an4 cd4 ct4), sl4⟩) (c4 : PySem.W.codeIn K cd4 "look_at_stand" = true) (k4 : PySem.W.keepIn K (.ref f4) = true)
{f5 : Addr} {od5 an5 : Option Addr} {sl5 : Array (Option Value)} {oc5 kV5 dc5 pm5 cd5 ct5 : Value}
    (a5 : PySem.W.nsIn K mainGlobals "look_at_switch" = some (some (.ref f5))) (l5 : K.lookup f5 = some ⟨oc5, od5, .func (PySem.W.fnOf "look_at_switch" "look_at_switch" (defArgs s_look_at_switch) (defBody s_look_at_switch) (defScope s_look_at_switch) .none kV5 dc5 pm5 an5 cd5 ct5), sl5⟩) (c5 : PySem.W.codeIn K cd5 "look_at_switch" = true) (k5 : PySem.W.keepIn K (.ref f5) = true)
{f6 : Addr} {od6 an6 : Option Addr} {sl6 : Array (Option Value)} {oc6 kV6 dc6 pm6 cd6 ct6 : Value}
    (a6 : PySem.W.nsIn K mainGlobals "stands_of" = some (some (.ref f6))) (l6 : K.lookup f6 = some ⟨oc6, od6, .func (PySem.W.fnOf "stands_of" "stands_of" (defArgs s_stands_of) (defBody s_stands_of) (defScope s_stands_of) .none kV6 dc6 pm6 an6 cd6 ct6), sl6⟩) (c6 : PySem.W.codeIn K cd6 "stands_of" = true) (k6 : PySem.W.keepIn K (.ref f6) = true)
{f7 : Addr} {od7 an7 : Option Addr} {sl7 : Array (Option Value)} {oc7 kV7 dc7 pm7 cd7 ct7 : Value}
    (a7 : PySem.W.nsIn K mainGlobals "place_of" = some (some (.ref f7))) (l7 : K.lookup f7 = some ⟨oc7, od7, .func (PySem.W.fnOf "place_of" "place_of" (defArgs s_place_of) (defBody s_place_of) (defScope s_place_of) .none kV7 dc7 pm7 an7 cd7 ct7), sl7⟩) (c7 : PySem.W.codeIn K cd7 "place_of" = true) (k7 : PySem.W.keepIn K (.ref f7) = true)
{f8 : Addr} {od8 an8 : Option Addr} {sl8 : Array (Option Value)} {oc8 kV8 dc8 pm8 cd8 ct8 : Value}
    (a8 : PySem.W.nsIn K mainGlobals "ought" = some (some (.ref f8))) (l8 : K.lookup f8 = some ⟨oc8, od8, .func (PySem.W.fnOf "ought" "ought" (defArgs s_ought) (defBody s_ought) (defScope s_ought) .none kV8 dc8 pm8 an8 cd8 ct8), sl8⟩) (c8 : PySem.W.codeIn K cd8 "ought" = true) (k8 : PySem.W.keepIn K (.ref f8) = true)
{f9 : Addr} {od9 an9 : Option Addr} {sl9 : Array (Option Value)} {oc9 kV9 dc9 pm9 cd9 ct9 : Value}
    (a9 : PySem.W.nsIn K mainGlobals "wrong_ones" = some (some (.ref f9))) (l9 : K.lookup f9 = some ⟨oc9, od9, .func (PySem.W.fnOf "wrong_ones" "wrong_ones" (defArgs s_wrong_ones) (defBody s_wrong_ones) (defScope s_wrong_ones) .none kV9 dc9 pm9 an9 cd9 ct9), sl9⟩) (c9 : PySem.W.codeIn K cd9 "wrong_ones" = true) (k9 : PySem.W.keepIn K (.ref f9) = true)
{f10 : Addr} {od10 an10 : Option Addr} {sl10 : Array (Option Value)} {oc10 kV10 dc10 pm10 cd10 ct10 : Value}
    (a10 : PySem.W.nsIn K mainGlobals "heard" = some (some (.ref f10))) (l10 : K.lookup f10 = some ⟨oc10, od10, .func (PySem.W.fnOf "heard" "heard" (defArgs s_heard) (defBody s_heard) (defScope s_heard) .none kV10 dc10 pm10 an10 cd10 ct10), sl10⟩) (c10 : PySem.W.codeIn K cd10 "heard" = true) (k10 : PySem.W.keepIn K (.ref f10) = true)
{f11 : Addr} {od11 an11 : Option Addr} {sl11 : Array (Option Value)} {oc11 kV11 dc11 pm11 cd11 ct11 : Value}
    (a11 : PySem.W.nsIn K mainGlobals "slim_rule" = some (some (.ref f11))) (l11 : K.lookup f11 = some ⟨oc11, od11, .func (PySem.W.fnOf "slim_rule" "slim_rule" (defArgs s_slim_rule) (defBody s_slim_rule) (defScope s_slim_rule) .none kV11 dc11 pm11 an11 cd11 ct11), sl11⟩) (c11 : PySem.W.codeIn K cd11 "slim_rule" = true) (k11 : PySem.W.keepIn K (.ref f11) = true)
{f12 : Addr} {od12 an12 : Option Addr} {sl12 : Array (Option Value)} {oc12 kV12 dc12 pm12 cd12 ct12 : Value}
    (a12 : PySem.W.nsIn K mainGlobals "slim" = some (some (.ref f12))) (l12 : K.lookup f12 = some ⟨oc12, od12, .func (PySem.W.fnOf "slim" "slim" (defArgs s_slim) (defBody s_slim) (defScope s_slim) .none kV12 dc12 pm12 an12 cd12 ct12), sl12⟩) (c12 : PySem.W.codeIn K cd12 "slim" = true) (k12 : PySem.W.keepIn K (.ref f12) = true)
{f13 : Addr} {od13 an13 : Option Addr} {sl13 : Array (Option Value)} {oc13 kV13 dc13 pm13 cd13 ct13 : Value}
    (a13 : PySem.W.nsIn K mainGlobals "is_order" = some (some (.ref f13))) (l13 : K.lookup f13 = some ⟨oc13, od13, .func (PySem.W.fnOf "is_order" "is_order" (defArgs s_is_order) (defBody s_is_order) (defScope s_is_order) .none kV13 dc13 pm13 an13 cd13 ct13), sl13⟩) (c13 : PySem.W.codeIn K cd13 "is_order" = true) (k13 : PySem.W.keepIn K (.ref f13) = true)
{f14 : Addr} {od14 an14 : Option Addr} {sl14 : Array (Option Value)} {oc14 kV14 dc14 pm14 cd14 ct14 : Value}
    (a14 : PySem.W.nsIn K mainGlobals "rule_anew" = some (some (.ref f14))) (l14 : K.lookup f14 = some ⟨oc14, od14, .func (PySem.W.fnOf "rule_anew" "rule_anew" (defArgs s_rule_anew) (defBody s_rule_anew) (defScope s_rule_anew) .none kV14 dc14 pm14 an14 cd14 ct14), sl14⟩) (c14 : PySem.W.codeIn K cd14 "rule_anew" = true) (k14 : PySem.W.keepIn K (.ref f14) = true)
{f15 : Addr} {od15 an15 : Option Addr} {sl15 : Array (Option Value)} {oc15 kV15 dc15 pm15 cd15 ct15 : Value}
    (a15 : PySem.W.nsIn K mainGlobals "named_anew" = some (some (.ref f15))) (l15 : K.lookup f15 = some ⟨oc15, od15, .func (PySem.W.fnOf "named_anew" "named_anew" (defArgs s_named_anew) (defBody s_named_anew) (defScope s_named_anew) .none kV15 dc15 pm15 an15 cd15 ct15), sl15⟩) (c15 : PySem.W.codeIn K cd15 "named_anew" = true) (k15 : PySem.W.keepIn K (.ref f15) = true)
{f16 : Addr} {od16 an16 : Option Addr} {sl16 : Array (Option Value)} {oc16 kV16 dc16 pm16 cd16 ct16 : Value}
    (a16 : PySem.W.nsIn K mainGlobals "flipped" = some (some (.ref f16))) (l16 : K.lookup f16 = some ⟨oc16, od16, .func (PySem.W.fnOf "flipped" "flipped" (defArgs s_flipped) (defBody s_flipped) (defScope s_flipped) .none kV16 dc16 pm16 an16 cd16 ct16), sl16⟩) (c16 : PySem.W.codeIn K cd16 "flipped" = true) (k16 : PySem.W.keepIn K (.ref f16) = true)
{f17 : Addr} {od17 an17 : Option Addr} {sl17 : Array (Option Value)} {oc17 kV17 dc17 pm17 cd17 ct17 : Value}
    (a17 : PySem.W.nsIn K mainGlobals "bit_for" = some (some (.ref f17))) (l17 : K.lookup f17 = some ⟨oc17, od17, .func (PySem.W.fnOf "bit_for" "bit_for" (defArgs s_bit_for) (defBody s_bit_for) (defScope s_bit_for) .none kV17 dc17 pm17 an17 cd17 ct17), sl17⟩) (c17 : PySem.W.codeIn K cd17 "bit_for" = true) (k17 : PySem.W.keepIn K (.ref f17) = true)
{f18 : Addr} {od18 an18 : Option Addr} {sl18 : Array (Option Value)} {oc18 kV18 dc18 pm18 cd18 ct18 : Value}
    (a18 : PySem.W.nsIn K mainGlobals "told_without" = some (some (.ref f18))) (l18 : K.lookup f18 = some ⟨oc18, od18, .func (PySem.W.fnOf "told_without" "told_without" (defArgs s_told_without) (defBody s_told_without) (defScope s_told_without) .none kV18 dc18 pm18 an18 cd18 ct18), sl18⟩) (c18 : PySem.W.codeIn K cd18 "told_without" = true) (k18 : PySem.W.keepIn K (.ref f18) = true)
{f19 : Addr} {od19 an19 : Option Addr} {sl19 : Array (Option Value)} {oc19 kV19 dc19 pm19 cd19 ct19 : Value}
    (a19 : PySem.W.nsIn K mainGlobals "own_rule" = some (some (.ref f19))) (l19 : K.lookup f19 = some ⟨oc19, od19, .func (PySem.W.fnOf "own_rule" "own_rule" (defArgs s_own_rule) (defBody s_own_rule) (defScope s_own_rule) .none kV19 dc19 pm19 an19 cd19 ct19), sl19⟩) (c19 : PySem.W.codeIn K cd19 "own_rule" = true) (k19 : PySem.W.keepIn K (.ref f19) = true)
{f20 : Addr} {od20 an20 : Option Addr} {sl20 : Array (Option Value)} {oc20 kV20 dc20 pm20 cd20 ct20 : Value}
    (a20 : PySem.W.nsIn K mainGlobals "folded" = some (some (.ref f20))) (l20 : K.lookup f20 = some ⟨oc20, od20, .func (PySem.W.fnOf "folded" "folded" (defArgs s_folded) (defBody s_folded) (defScope s_folded) .none kV20 dc20 pm20 an20 cd20 ct20), sl20⟩) (c20 : PySem.W.codeIn K cd20 "folded" = true) (k20 : PySem.W.keepIn K (.ref f20) = true)
{f21 : Addr} {od21 an21 : Option Addr} {sl21 : Array (Option Value)} {oc21 kV21 dc21 pm21 cd21 ct21 : Value}
    (a21 : PySem.W.nsIn K mainGlobals "unfolded" = some (some (.ref f21))) (l21 : K.lookup f21 = some ⟨oc21, od21, .func (PySem.W.fnOf "unfolded" "unfolded" (defArgs s_unfolded) (defBody s_unfolded) (defScope s_unfolded) .none kV21 dc21 pm21 an21 cd21 ct21), sl21⟩) (c21 : PySem.W.codeIn K cd21 "unfolded" = true) (k21 : PySem.W.keepIn K (.ref f21) = true)
{f22 : Addr} {od22 an22 : Option Addr} {sl22 : Array (Option Value)} {oc22 kV22 dc22 pm22 cd22 ct22 : Value}
    (a22 : PySem.W.nsIn K mainGlobals "rests_of" = some (some (.ref f22))) (l22 : K.lookup f22 = some ⟨oc22, od22, .func (PySem.W.fnOf "rests_of" "rests_of" (defArgs s_rests_of) (defBody s_rests_of) (defScope s_rests_of) .none kV22 dc22 pm22 an22 cd22 ct22), sl22⟩) (c22 : PySem.W.codeIn K cd22 "rests_of" = true) (k22 : PySem.W.keepIn K (.ref f22) = true)
{f23 : Addr} {od23 an23 : Option Addr} {sl23 : Array (Option Value)} {oc23 kV23 dc23 pm23 cd23 ct23 : Value}
    (a23 : PySem.W.nsIn K mainGlobals "_law_cell" = some (some (.ref f23))) (l23 : K.lookup f23 = some ⟨oc23, od23, .func (PySem.W.fnOf "_law_cell" "_law_cell" (defArgs s__law_cell) (defBody s__law_cell) (defScope s__law_cell) .none kV23 dc23 pm23 an23 cd23 ct23), sl23⟩) (c23 : PySem.W.codeIn K cd23 "_law_cell" = true) (k23 : PySem.W.keepIn K (.ref f23) = true)
{f24 : Addr} {od24 an24 : Option Addr} {sl24 : Array (Option Value)} {oc24 kV24 dc24 pm24 cd24 ct24 : Value}
    (a24 : PySem.W.nsIn K mainGlobals "_law_mix" = some (some (.ref f24))) (l24 : K.lookup f24 = some ⟨oc24, od24, .func (PySem.W.fnOf "_law_mix" "_law_mix" (defArgs s__law_mix) (defBody s__law_mix) (defScope s__law_mix) .none kV24 dc24 pm24 an24 cd24 ct24), sl24⟩) (c24 : PySem.W.codeIn K cd24 "_law_mix" = true) (k24 : PySem.W.keepIn K (.ref f24) = true)
{f25 : Addr} {od25 an25 : Option Addr} {sl25 : Array (Option Value)} {oc25 kV25 dc25 pm25 cd25 ct25 : Value}
    (a25 : PySem.W.nsIn K mainGlobals "_law_box" = some (some (.ref f25))) (l25 : K.lookup f25 = some ⟨oc25, od25, .func (PySem.W.fnOf "_law_box" "_law_box" (defArgs s__law_box) (defBody s__law_box) (defScope s__law_box) .none kV25 dc25 pm25 an25 cd25 ct25), sl25⟩) (c25 : PySem.W.codeIn K cd25 "_law_box" = true) (k25 : PySem.W.keepIn K (.ref f25) = true)
{f26 : Addr} {od26 an26 : Option Addr} {sl26 : Array (Option Value)} {oc26 kV26 dc26 pm26 cd26 ct26 : Value}
    (a26 : PySem.W.nsIn K mainGlobals "_law_take" = some (some (.ref f26))) (l26 : K.lookup f26 = some ⟨oc26, od26, .func (PySem.W.fnOf "_law_take" "_law_take" (defArgs s__law_take) (defBody s__law_take) (defScope s__law_take) .none kV26 dc26 pm26 an26 cd26 ct26), sl26⟩) (c26 : PySem.W.codeIn K cd26 "_law_take" = true) (k26 : PySem.W.keepIn K (.ref f26) = true)
{f27 : Addr} {od27 an27 : Option Addr} {sl27 : Array (Option Value)} {oc27 kV27 dc27 pm27 cd27 ct27 : Value}
    (a27 : PySem.W.nsIn K mainGlobals "_law_rule" = some (some (.ref f27))) (l27 : K.lookup f27 = some ⟨oc27, od27, .func (PySem.W.fnOf "_law_rule" "_law_rule" (defArgs s__law_rule) (defBody s__law_rule) (defScope s__law_rule) .none kV27 dc27 pm27 an27 cd27 ct27), sl27⟩) (c27 : PySem.W.codeIn K cd27 "_law_rule" = true) (k27 : PySem.W.keepIn K (.ref f27) = true)
{f28 : Addr} {od28 an28 : Option Addr} {sl28 : Array (Option Value)} {oc28 kV28 dc28 pm28 cd28 ct28 : Value}
    (a28 : PySem.W.nsIn K mainGlobals "_law_change" = some (some (.ref f28))) (l28 : K.lookup f28 = some ⟨oc28, od28, .func (PySem.W.fnOf "_law_change" "_law_change" (defArgs s__law_change) (defBody s__law_change) (defScope s__law_change) .none kV28 dc28 pm28 an28 cd28 ct28), sl28⟩) (c28 : PySem.W.codeIn K cd28 "_law_change" = true) (k28 : PySem.W.keepIn K (.ref f28) = true)
{f29 : Addr} {od29 an29 : Option Addr} {sl29 : Array (Option Value)} {oc29 kV29 dc29 pm29 cd29 ct29 : Value}
    (a29 : PySem.W.nsIn K mainGlobals "_law_names" = some (some (.ref f29))) (l29 : K.lookup f29 = some ⟨oc29, od29, .func (PySem.W.fnOf "_law_names" "_law_names" (defArgs s__law_names) (defBody s__law_names) (defScope s__law_names) .none kV29 dc29 pm29 an29 cd29 ct29), sl29⟩) (c29 : PySem.W.codeIn K cd29 "_law_names" = true) (k29 : PySem.W.keepIn K (.ref f29) = true)
{f30 : Addr} {od30 an30 : Option Addr} {sl30 : Array (Option Value)} {oc30 kV30 dc30 pm30 cd30 ct30 : Value}
    (a30 : PySem.W.nsIn K mainGlobals "_law_small" = some (some (.ref f30))) (l30 : K.lookup f30 = some ⟨oc30, od30, .func (PySem.W.fnOf "_law_small" "_law_small" (defArgs s__law_small) (defBody s__law_small) (defScope s__law_small) .none kV30 dc30 pm30 an30 cd30 ct30), sl30⟩) (c30 : PySem.W.codeIn K cd30 "_law_small" = true) (k30 : PySem.W.keepIn K (.ref f30) = true)
{f31 : Addr} {od31 an31 : Option Addr} {sl31 : Array (Option Value)} {oc31 kV31 dc31 pm31 cd31 ct31 : Value}
    (a31 : PySem.W.nsIn K mainGlobals "law" = some (some (.ref f31))) (l31 : K.lookup f31 = some ⟨oc31, od31, .func (PySem.W.fnOf "law" "law" (defArgs s_law) (defBody s_law) (defScope s_law) .none kV31 dc31 pm31 an31 cd31 ct31), sl31⟩) (c31 : PySem.W.codeIn K cd31 "law" = true) (k31 : PySem.W.keepIn K (.ref f31) = true)
    {tk0 : Tok} (u0 : PySem.W.nsIn K mainGlobals "MOST_EARS" = some (some (.int 4 tk0)))
    {C0 : Addr} (x0 : PySem.W.nsIn K mainGlobals "Hears" = some (some (.ref C0))) (xe0 : PySem.W.excIn K C0 Y.veB "ValueError.__new__" = true) (xk0 : PySem.W.keepIn K (.ref C0) = true) (xb0 : PySem.W.subIn K (.ref C0) (.type "BaseException") = some true) (xt0 : PySem.W.typeIn K (.ref C0) = some (.type "type"))
    {C1 : Addr} (x1 : PySem.W.nsIn K mainGlobals "NoOrder" = some (some (.ref C1))) (xe1 : PySem.W.excIn K C1 Y.veB "ValueError.__new__" = true) (xk1 : PySem.W.keepIn K (.ref C1) = true) (xb1 : PySem.W.subIn K (.ref C1) (.type "BaseException") = some true) (xt1 : PySem.W.typeIn K (.ref C1) = some (.type "type"))
    {C2 : Addr} (x2 : PySem.W.nsIn K mainGlobals "NoStand" = some (some (.ref C2))) (xe2 : PySem.W.excIn K C2 Y.veB "ValueError.__new__" = true) (xk2 : PySem.W.keepIn K (.ref C2) = true) (xb2 : PySem.W.subIn K (.ref C2) (.type "BaseException") = some true) (xt2 : PySem.W.typeIn K (.ref C2) = some (.type "type"))
    {C3 : Addr} (x3 : PySem.W.nsIn K mainGlobals "NoSwitch" = some (some (.ref C3))) (xe3 : PySem.W.excIn K C3 Y.veB "ValueError.__new__" = true) (xk3 : PySem.W.keepIn K (.ref C3) = true) (xb3 : PySem.W.subIn K (.ref C3) (.type "BaseException") = some true) (xt3 : PySem.W.typeIn K (.ref C3) = some (.type "type"))
    {C4 : Addr} (x4 : PySem.W.nsIn K mainGlobals "TooMany" = some (some (.ref C4))) (xe4 : PySem.W.excIn K C4 Y.veB "ValueError.__new__" = true) (xk4 : PySem.W.keepIn K (.ref C4) = true) (xb4 : PySem.W.subIn K (.ref C4) (.type "BaseException") = some true) (xt4 : PySem.W.typeIn K (.ref C4) = some (.type "type"))
    {N0 : Addr} (n0 : PySem.W.nsIn K mainGlobals "NetError" = some (some (.ref N0)))
    (hg0 : PySem.W.findIn K (.ref C0) "__getattribute__" = some (some (.builtin "BaseException.__getattribute__"))) (hk0 : PySem.W.findIn K (.ref C0) "__getattr__" = some none) (hs0 : PySem.W.subIn K (.ref C0) (.type "BaseException") = some true) (hd0 : PySem.W.hasDictIn K C0 = true) (ha0 : PySem.W.findIn K (.ref C0) "__class__" = some (some (.builtin "object.__class__"))) (hn0 : PySem.W.specialIn K (.builtin "object.__class__") "__get__" = some (some (.builtin "getset_descriptor.__get__"))) (ht0 : PySem.W.takesIn K (.builtin "object.__class__") = some true) (hm0 : PySem.W.mroIn K C0 (.type "object") = some true)
    (hg1 : PySem.W.findIn K (.ref C3) "__getattribute__" = some (some (.builtin "BaseException.__getattribute__"))) (hk1 : PySem.W.findIn K (.ref C3) "__getattr__" = some none) (hs1 : PySem.W.subIn K (.ref C3) (.type "BaseException") = some true) (hd1 : PySem.W.hasDictIn K C3 = true) (ha1 : PySem.W.findIn K (.ref C3) "__class__" = some (some (.builtin "object.__class__"))) (hn1 : PySem.W.specialIn K (.builtin "object.__class__") "__get__" = some (some (.builtin "getset_descriptor.__get__"))) (ht1 : PySem.W.takesIn K (.builtin "object.__class__") = some true) (hm1 : PySem.W.mroIn K C3 (.type "object") = some true)
    (hg2 : PySem.W.findIn K (.ref C4) "__getattribute__" = some (some (.builtin "BaseException.__getattribute__"))) (hk2 : PySem.W.findIn K (.ref C4) "__getattr__" = some none) (hs2 : PySem.W.subIn K (.ref C4) (.type "BaseException") = some true) (hd2 : PySem.W.hasDictIn K C4 = true) (ha2 : PySem.W.findIn K (.ref C4) "__class__" = some (some (.builtin "object.__class__"))) (hn2 : PySem.W.specialIn K (.builtin "object.__class__") "__get__" = some (some (.builtin "getset_descriptor.__get__"))) (ht2 : PySem.W.takesIn K (.builtin "object.__class__") = some true) (hm2 : PySem.W.mroIn K C4 (.type "object") = some true)
    (td0 : PySem.W.hasDictIn K N0 = true) (tt0 : PySem.W.typeIn K (.ref N0) = some (.type "type")) (tb0 : PySem.W.subIn K (.ref N0) (.type "BaseException") = some true)
    (self0 : PySem.W.subIn K (.ref C0) (.ref C0) = some true)
    (self1 : PySem.W.subIn K (.ref C3) (.ref C3) = some true)
    (self2 : PySem.W.subIn K (.ref C4) (.ref C4) = some true)
    (kx0 : PySem.W.subIn K (.ref C0) (.ref N0) = some true)
    (kx1 : PySem.W.subIn K (.ref C3) (.ref N0) = some true)
    (kx2 : PySem.W.subIn K (.ref C4) (.ref N0) = some true)
    (z0 : PySem.W.nsIn K mainGlobals "all" = some none)
    (z1 : PySem.W.nsIn K mainGlobals "any" = some none)
    (z2 : PySem.W.nsIn K mainGlobals "bool" = some none)
    (z3 : PySem.W.nsIn K mainGlobals "dict" = some none)
    (z4 : PySem.W.nsIn K mainGlobals "divmod" = some none)
    (z5 : PySem.W.nsIn K mainGlobals "enumerate" = some none)
    (z6 : PySem.W.nsIn K mainGlobals "int" = some none)
    (z7 : PySem.W.nsIn K mainGlobals "isinstance" = some none)
    (z8 : PySem.W.nsIn K mainGlobals "len" = some none)
    (z9 : PySem.W.nsIn K mainGlobals "list" = some none)
    (z10 : PySem.W.nsIn K mainGlobals "max" = some none)
    (z11 : PySem.W.nsIn K mainGlobals "min" = some none)
    (z12 : PySem.W.nsIn K mainGlobals "range" = some none)
    (z13 : PySem.W.nsIn K mainGlobals "set" = some none)
    (z14 : PySem.W.nsIn K mainGlobals "sorted" = some none)
    (z15 : PySem.W.nsIn K mainGlobals "sum" = some none)
    (z16 : PySem.W.nsIn K mainGlobals "tuple" = some none)
    (z17 : PySem.W.nsIn K mainGlobals "zip" = some none)
    : ∃ fd : FuncData, (∀ (s : Shared) (u : Value), BindsTo s fd ⟨[u], []⟩ [("script", u)]) ∧ ∀ base : Heap, K.In base → base.Ns mainGlobals mg → FnOk l.prog w K mg base (L2N.CX l.prog w) 8 fa fd ["script"] (spL K 63) :=
  have T : Txt K mg := ⟨def_mk X G a0 l0 c0 k0, def_mk X G a1 l1 c1 k1, def_mk X G a2 l2 c2 k2, def_mk X G a3 l3 c3 k3, def_mk X G a4 l4 c4 k4, def_mk X G a5 l5 c5 k5, def_mk X G a6 l6 c6 k6, def_mk X G a7 l7 c7 k7, def_mk X G a8 l8 c8 k8, def_mk X G a9 l9 c9 k9, def_mk X G a10 l10 c10 k10, def_mk X G a11 l11 c11 k11, def_mk X G a12 l12 c12 k12, def_mk X G a13 l13 c13 k13, def_mk X G a14 l14 c14 k14, def_mk X G a15 l15 c15 k15, def_mk X G a16 l16 c16 k16, def_mk X G a17 l17 c17 k17, def_mk X G a18 l18 c18 k18, def_mk X G a19 l19 c19 k19, def_mk X G a20 l20 c20 k20, def_mk X G a21 l21 c21 k21, def_mk X G a22 l22 c22 k22, def_mk X G a23 l23 c23 k23, def_mk X G a24 l24 c24 k24, def_mk X G a25 l25 c25 k25, def_mk X G a26 l26 c26 k26, def_mk X G a27 l27 c27 k27, def_mk X G a28 l28 c28 k28, def_mk X G a29 l29 c29 k29, def_mk X G a30 l30 c30 k30, ⟨_, PySem.W.mg_of X G u0⟩, ⟨⟨_, PySem.W.mg_of X G x0, xe0, xk0, xb0, xt0⟩⟩, ⟨⟨_, PySem.W.mg_of X G x1, xe1, xk1, xb1, xt1⟩⟩, ⟨⟨_, PySem.W.mg_of X G x2, xe2, xk2, xb2, xt2⟩⟩, ⟨⟨_, PySem.W.mg_of X G x3, xe3, xk3, xb3, xt3⟩⟩, ⟨⟨_, PySem.W.mg_of X G x4, xe4, xk4, xb4, xt4⟩⟩, PySem.W.mg_none_of X G z0, PySem.W.mg_none_of X G z1, PySem.W.mg_none_of X G z2, PySem.W.mg_none_of X G z3, PySem.W.mg_none_of X G z4, PySem.W.mg_none_of X G z5, PySem.W.mg_none_of X G z6, PySem.W.mg_none_of X G z7, PySem.W.mg_none_of X G z8, PySem.W.mg_none_of X G z9, PySem.W.mg_none_of X G z10, PySem.W.mg_none_of X G z11, PySem.W.mg_none_of X G z12, PySem.W.mg_none_of X G z13, PySem.W.mg_none_of X G z14, PySem.W.mg_none_of X G z15, PySem.W.mg_none_of X G z16, PySem.W.mg_none_of X G z17, ⟨⟨_, PySem.W.mg_of X G n0, (all_cons ⟨C0, PySem.W.mg_of X G x0, PySem.W.exm_ref tb0 td0 tt0 kx0⟩ (all_cons ⟨C3, PySem.W.mg_of X G x3, PySem.W.exm_ref tb0 td0 tt0 kx1⟩ (all_cons ⟨C4, PySem.W.mg_of X G x4, PySem.W.exm_ref tb0 td0 tt0 kx2⟩ all_nil)))⟩⟩, (all_cons ⟨⟨C0, PySem.W.mg_of X G x0, ⟨hg0, hk0, hs0, hd0, ha0, hn0, ht0, hm0⟩⟩⟩ (all_cons ⟨⟨C3, PySem.W.mg_of X G x3, ⟨hg1, hk1, hs1, hd1, ha1, hn1, ht1, hm1⟩⟩⟩ (all_cons ⟨⟨C4, PySem.W.mg_of X G x4, ⟨hg2, hk2, hs2, hd2, ha2, hn2, ht2, hm2⟩⟩⟩ all_nil)))⟩
  law_all X G hfa hg (fun base {f} {fd} F => ok_law T F) (fun _ _ _ _ _ _ s u => .of_eq rfl) a31 l31 c31 k31
end K95
open PySem PySem.W PyProof.Rows
set_option maxHeartbeats 0 in
theorem PySem.Challenge.cw_switchnets_k95_whole_rests_led_over_holds : PySem.Challenge.rw_switchnets_k95_whole_rests_led_over.Holds := by
  w_on; o_law; k_head; (case hw => w_witness2)
  k_fill
  refine L2.walk_ofB (l := PySem.Challenge.rw_switchnets_k95_whole_rests_led_over) (n := 63) (k := 8) (x := "script") (CX := fun w => L2N.CX PySem.Challenge.rw_switchnets_k95_whole_rests_led_over.prog w) (sp := fun w => Y.spL _ 63) rfl (by decide) rfl ⟨rfl, by decide, by decide⟩ (fun w h Z => PySem.W.kIn_of Z) ?F (fun _ _ a ns hl hb _ hS => ⟨a, ns, rfl, hS, hl, hb, fun _ => rfl⟩) (fun _ _ _ _ _ h => Y.cx_none h)
  case F =>
    intro w mg fa h KX G hmg
    refine' K95.all KX G hmg K95.good_law ?a0 ?l0 ?c0 ?k0 ?a1 ?l1 ?c1 ?k1 ?a2 ?l2 ?c2 ?k2 ?a3 ?l3 ?c3 ?k3 ?a4 ?l4 ?c4 ?k4 ?a5 ?l5 ?c5 ?k5 ?a6 ?l6 ?c6 ?k6 ?a7 ?l7 ?c7 ?k7 ?a8 ?l8 ?c8 ?k8 ?a9 ?l9 ?c9 ?k9 ?a10 ?l10 ?c10 ?k10 ?a11 ?l11 ?c11 ?k11 ?a12 ?l12 ?c12 ?k12 ?a13 ?l13 ?c13 ?k13 ?a14 ?l14 ?c14 ?k14 ?a15 ?l15 ?c15 ?k15 ?a16 ?l16 ?c16 ?k16 ?a17 ?l17 ?c17 ?k17 ?a18 ?l18 ?c18 ?k18 ?a19 ?l19 ?c19 ?k19 ?a20 ?l20 ?c20 ?k20 ?a21 ?l21 ?c21 ?k21 ?a22 ?l22 ?c22 ?k22 ?a23 ?l23 ?c23 ?k23 ?a24 ?l24 ?c24 ?k24 ?a25 ?l25 ?c25 ?k25 ?a26 ?l26 ?c26 ?k26 ?a27 ?l27 ?c27 ?k27 ?a28 ?l28 ?c28 ?k28 ?a29 ?l29 ?c29 ?k29 ?a30 ?l30 ?c30 ?k30 ?a31 ?l31 ?c31 ?k31 ?u0 ?x0 ?xe0 ?xk0 ?xb0 ?xt0 ?x1 ?xe1 ?xk1 ?xb1 ?xt1 ?x2 ?xe2 ?xk2 ?xb2 ?xt2 ?x3 ?xe3 ?xk3 ?xb3 ?xt3 ?x4 ?xe4 ?xk4 ?xb4 ?xt4 ?n0 ?hg0 ?hk0 ?hs0 ?hd0 ?ha0 ?hn0 ?ht0 ?hm0 ?hg1 ?hk1 ?hs1 ?hd1 ?ha1 ?hn1 ?ht1 ?hm1 ?hg2 ?hk2 ?hs2 ?hd2 ?ha2 ?hn2 ?ht2 ?hm2 ?td0 ?tt0 ?tb0 ?self0 ?self1 ?self2 ?kx0 ?kx1 ?kx2 ?z0 ?z1 ?z2 ?z3 ?z4 ?z5 ?z6 ?z7 ?z8 ?z9 ?z10 ?z11 ?z12 ?z13 ?z14 ?z15 ?z16 ?z17
    (case a0 => k_is); (case l0 => k_is); (case c0 => k_is); (case k0 => k_is); (case a1 => k_is); (case l1 => k_is); (case c1 => k_is); (case k1 => k_is); (case a2 => k_is); (case l2 => k_is); (case c2 => k_is); (case k2 => k_is); (case a3 => k_is); (case l3 => k_is); (case c3 => k_is); (case k3 => k_is); (case a4 => k_is); (case l4 => k_is); (case c4 => k_is); (case k4 => k_is); (case a5 => k_is); (case l5 => k_is); (case c5 => k_is); (case k5 => k_is); (case a6 => k_is); (case l6 => k_is); (case c6 => k_is); (case k6 => k_is); (case a7 => k_is); (case l7 => k_is); (case c7 => k_is); (case k7 => k_is); (case a8 => k_is); (case l8 => k_is); (case c8 => k_is); (case k8 => k_is); (case a9 => k_is); (case l9 => k_is); (case c9 => k_is); (case k9 => k_is); (case a10 => k_is); (case l10 => k_is); (case c10 => k_is); (case k10 => k_is); (case a11 => k_is); (case l11 => k_is); (case c11 => k_is); (case k11 => k_is); (case a12 => k_is); (case l12 => k_is); (case c12 => k_is); (case k12 => k_is); (case a13 => k_is); (case l13 => k_is); (case c13 => k_is); (case k13 => k_is); (case a14 => k_is); (case l14 => k_is); (case c14 => k_is); (case k14 => k_is); (case a15 => k_is); (case l15 => k_is); (case c15 => k_is); (case k15 => k_is); (case a16 => k_is); (case l16 => k_is); (case c16 => k_is); (case k16 => k_is); (case a17 => k_is); (case l17 => k_is); (case c17 => k_is); (case k17 => k_is); (case a18 => k_is); (case l18 => k_is); (case c18 => k_is); (case k18 => k_is); (case a19 => k_is); (case l19 => k_is); (case c19 => k_is); (case k19 => k_is); (case a20 => k_is); (case l20 => k_is); (case c20 => k_is); (case k20 => k_is); (case a21 => k_is); (case l21 => k_is); (case c21 => k_is); (case k21 => k_is); (case a22 => k_is); (case l22 => k_is); (case c22 => k_is); (case k22 => k_is); (case a23 => k_is); (case l23 => k_is); (case c23 => k_is); (case k23 => k_is); (case a24 => k_is); (case l24 => k_is); (case c24 => k_is); (case k24 => k_is); (case a25 => k_is); (case l25 => k_is); (case c25 => k_is); (case k25 => k_is); (case a26 => k_is); (case l26 => k_is); (case c26 => k_is); (case k26 => k_is); (case a27 => k_is); (case l27 => k_is); (case c27 => k_is); (case k27 => k_is); (case a28 => k_is); (case l28 => k_is); (case c28 => k_is); (case k28 => k_is); (case a29 => k_is); (case l29 => k_is); (case c29 => k_is); (case k29 => k_is); (case a30 => k_is); (case l30 => k_is); (case c30 => k_is); (case k30 => k_is); (case a31 => k_is); (case l31 => k_is); (case c31 => k_is); (case k31 => k_is); (case u0 => k_is); (case x0 => k_is); (case xe0 => k_exc); (case xk0 => k_is); (case xb0 => k_is); (case xt0 => k_is); (case x1 => k_is); (case xe1 => k_exc); (case xk1 => k_is); (case xb1 => k_is); (case xt1 => k_is); (case x2 => k_is); (case xe2 => k_exc); (case xk2 => k_is); (case xb2 => k_is); (case xt2 => k_is); (case x3 => k_is); (case xe3 => k_exc); (case xk3 => k_is); (case xb3 => k_is); (case xt3 => k_is); (case x4 => k_is); (case xe4 => k_exc); (case xk4 => k_is); (case xb4 => k_is); (case xt4 => k_is); (case n0 => k_is); (case hg0 => k_is); (case hk0 => k_is); (case hs0 => k_is); (case hd0 => k_is); (case ha0 => k_is); (case hn0 => k_is); (case ht0 => k_is); (case hm0 => k_is); (case hg1 => k_is); (case hk1 => k_is); (case hs1 => k_is); (case hd1 => k_is); (case ha1 => k_is); (case hn1 => k_is); (case ht1 => k_is); (case hm1 => k_is); (case hg2 => k_is); (case hk2 => k_is); (case hs2 => k_is); (case hd2 => k_is); (case ha2 => k_is); (case hn2 => k_is); (case ht2 => k_is); (case hm2 => k_is); (case td0 => k_is); (case tt0 => k_is); (case tb0 => k_is); (case self0 => k_is); (case self1 => k_is); (case self2 => k_is); (case kx0 => k_is); (case kx1 => k_is); (case kx2 => k_is); (case z0 => k_is); (case z1 => k_is); (case z2 => k_is); (case z3 => k_is); (case z4 => k_is); (case z5 => k_is); (case z6 => k_is); (case z7 => k_is); (case z8 => k_is); (case z9 => k_is); (case z10 => k_is); (case z11 => k_is); (case z12 => k_is); (case z13 => k_is); (case z14 => k_is); (case z15 => k_is); (case z16 => k_is); (case z17 => k_is)

