import PyProof.Rows.All
import Wide.All
import OpenK.AllK
import Wide.FinOn
import HandS.ForMost
import HandS.TupAny
import HandS.Wide
import HandS.IsInst
import HandS.Deep
import HandS.Flow
import HandS.Lambda
import HandS.TupMul
import HandS.TupLe
import HandS.TupLen
import HandS.SortOrd
import HandS.SortInts
import HandS.Walk
import HandS.Zip
import HandS.ForExc
import HandS.EndBits
import HandS.ExcCtx
import HandS.HotCalls
import HandS.Conv
import HandS.SortRule
import KE.KSortTup
import PyProof.Rows.SortShell
import PyProof.Rows.SortShellAny
import HandS.Text
import PyProof.AutoSeq1
import KE.GoesZip
import KE.GoesMore
import KE.GoesEnum
import HandS.ExcIs
import HandS.SetFor
import HandS.Strs
import HandS.Replace
import KE.KRevSl
import HandS.Dict
import HandS.Iter
import KE.KDictWalk
import KE.KEqDict
import KE.KDictSum
import KE.KDictCopyH
import HandS.More
import KE.SortData
import KE.KDictDisplayH
import HandS.SetKeys
import PyProof.WalksMore
import PyProof.SumAny
import KE.KDictZip
import KE.KDictItemsList
import HandS.ListItems
import KE.DataMinMax
import KE.KDictKeyed
import KE.KDictList
import KE.KTupSum
import HandS.Rev
import HandS.TupSets
import KE.KDictPairs
import KE.KIndexOf
import HandS.Codes
import KE.KSortRegSt
import KE.KxWritten
import HandS.EndTab
import KE.SortKeyHeap
import PyProof.Rows.Tup
import PyProof.FactsAll.set_2
import HandS.TryOnly
import HandS.StrMore
import PyProof.Rows.StrRev
import HandS.Comp
import PySem.Challenge.RW_switchnets_k82_clashes
set_option Elab.async false
set_option linter.all false
set_option maxRecDepth 100000
namespace Y
open PySem PySem.Spec PyProof.Rows L2
abbrev St := L2.St

/-- data at any depth; lists, dicts by what they hold; arg: the script; ftu: a tuple whose object is known to have no dict of its own; tab: a code object's table, its lambdas' name -/
inductive D where
  | non | bl (b : Bool) | int (i : Int) | str (x : Str) | tup (xs : List D) | lst (xs : List D)
  | arg (ns : List Int) | dik (ks : List Key) (ds : List D) | dit (ks : List (List Key)) (ds : List D) | ftu (xs : List D) | tab (p : Addr) (q : Str)
instance : Inhabited D := ⟨.non⟩
/-- a way of a run: an end, an exception of the program's own, anything else -/
inductive R (α : Type) where
  | ok (a : α) | er (c : Str) (ds : List D) | stk
@[simp] def R.bind {α β : Type} : R α → (α → R β) → R β
  | .ok a, f => f a
  | .er c ds, _ => .er c ds
  | .stk, _ => .stk
instance : Monad R where
  pure := .ok
  bind := R.bind
@[simp] theorem R.bind_ok {α β : Type} (a : α) (f : α → R β) : (R.ok a >>= f) = f a := id rfl
@[simp] theorem R.bind_stk {α β : Type} (f : α → R β) : ((R.stk : R α) >>= f) = .stk := id rfl
@[simp] theorem R.bind_er {α β : Type} (c : Str) (ds : List D) (f : α → R β) : ((R.er c ds : R α) >>= f) = .er c ds := id rfl
@[simp] theorem R.pure_eq {α : Type} (a : α) : (pure a : R α) = .ok a := id rfl
/-- the names' data by slot -/
abbrev Env := List (Option D)
/-- what an expression hands on: new data, data, or the object of an own slot -/
inductive Hd where
  | fr (d : D) | vl (d : D) | ow (i : Nat)
abbrev EM := Env → R (Hd × Env)
def look (i : Nat) (ρ : Env) : R D := match ρ[i]? with
  | some (some d) => .ok d
  | _ => .stk
def Hd.d : Hd → Env → R D
  | .fr d, _ => .ok d
  | .vl d, _ => .ok d
  | .ow i, ρ => look i ρ
def Hd.v : Hd → R D
  | .fr d => .ok d
  | .vl d => .ok d
  | .ow _ => .stk
def D.isMu : D → Bool
  | .lst _ => true
  | .dik _ _ => true
  | .dit _ _ => true
  | .arg _ => true
  | .tab _ _ => true
  | _ => false

abbrev Pr := Addr → Prop
/-- the table at p -/
def TabP (H : Hp) (p : Addr) (q : Str) (a : Addr) : Prop := a = p ∧ LamX.TabS H a q
mutual
/-- v is d, over objects none of which is forbidden (tuples never change: they may be any) -/
def Rep (K : PySem.W.Frag) (H : Hp) : D → Pr → V → Prop
  | .non, _, v => v = .non
  | .bl b, _, v => v = .bl b
  | .int i, _, v => v = .int i
  | .str x, _, v => v = .str x
  | .tup ds, P, v => ∃ a vs, v = .ref a ∧ H a = some (.tup vs) ∧ Reps K H ds P vs
  | .ftu ds, P, v => ∃ a vs o, v = .ref a ∧ H a = some (.frz o (.tup vs)) ∧ o.dict = none ∧ Reps K H ds P vs
  | .tab p q, P, v => ∃ a, v = .ref a ∧ ¬ P a ∧ TabP H p q a
  | .lst ds, P, v => ∃ a vs, v = .ref a ∧ ¬ P a ∧ H a = some (.lst vs) ∧ Reps K H ds (fun b => P b ∨ b = a) vs
  | .arg ns, P, v => ∃ a, v = .ref a ∧ ((¬ P a ∧ Rd H a (.lst (ns.map V.int))) ∨ SqL K (fun _ => none) a (ns.map V.int))
  | .dik ks ds, P, v => ∃ a vs, v = .ref a ∧ ¬ P a ∧ ks.length = vs.length ∧ Rd H a (.dK (ks.zip vs)) ∧ Reps K H ds (fun b => P b ∨ b = a) vs
  | .dit ks ds, P, v => ∃ a vs, v = .ref a ∧ ¬ P a ∧ ks.length = vs.length ∧ Rd H a (.dT (ks.zip vs)) ∧ Reps K H ds (fun b => P b ∨ b = a) vs
def Reps (K : PySem.W.Frag) (H : Hp) : List D → Pr → List V → Prop
  | [], _, vs => vs = []
  | d :: ds, P, vs => ∃ v ws, vs = v :: ws ∧ Rep K H d P v ∧ Reps K H ds P ws
end
/-- the object itself may be forbidden, what it holds not -/
def RepW (K : PySem.W.Frag) (H : Hp) : D → Pr → V → Prop
  | .lst ds, P, v => ∃ a vs, v = .ref a ∧ H a = some (.lst vs) ∧ Reps K H ds P vs
  | .arg ns, P, v => ∃ a, v = .ref a ∧ SqL K H a (ns.map V.int)
  | .dik ks ds, P, v => ∃ a vs, v = .ref a ∧ ks.length = vs.length ∧ Rd H a (.dK (ks.zip vs)) ∧ Reps K H ds P vs
  | .dit ks ds, P, v => ∃ a vs, v = .ref a ∧ ks.length = vs.length ∧ Rd H a (.dT (ks.zip vs)) ∧ Reps K H ds P vs
  | .tab p q, P, v => ∃ a, v = .ref a ∧ TabP H p q a
  | d, P, v => Rep K H d P v
/-- an own slot's object: it may be written -/
def RepO (K : PySem.W.Frag) (H : Hp) : D → Pr → V → Prop
  | .lst ds, P, v => ∃ a vs, v = .ref a ∧ H a = some (.lst vs) ∧ Reps K H ds P vs
  | .dik ks ds, P, v => ∃ a vs, v = .ref a ∧ ks.length = vs.length ∧ H a = some (.dK (ks.zip vs)) ∧ Reps K H ds P vs
  | .dit ks ds, P, v => ∃ a vs, v = .ref a ∧ ks.length = vs.length ∧ H a = some (.dT (ks.zip vs)) ∧ Reps K H ds P vs
  | .non, _, v => v = .non
  | .bl b, _, v => v = .bl b
  | .int i, _, v => v = .int i
  | .str x, _, v => v = .str x
  | .tab p q, _, v => ∃ a, v = .ref a ∧ TabP H p q a
  | _, _, _ => False

/-- an object that may change (or a list, a dict that is locked) -/
def isMut : Option HO → Prop
  | some (.lst _) => True
  | some (.dK _) => True
  | some (.dT _) => True
  | some (.ins _ _ _) => True
  | some (.set _ _) => True
  | some (.frz _ (.lst _)) => True
  | some (.frz _ (.dK _)) => True
  | some (.frz _ (.dT _)) => True
  | some (.tbl _) => True
  | _ => False
theorem isMut.nt {H : Hp} {b : Addr} (h : isMut (H b)) {xs : List V} : ¬ Rd H b (.tup xs) := by
  rintro (e | ⟨o, e⟩) <;> (rw [e] at h; exact h)
theorem isMut.some {o : Option HO} (h : isMut o) : o ≠ none := by rintro rfl; exact h
theorem Rd.keep {H H' : Hp} {a : Addr} {u : HO} (r : Rd H a u) (k : ∀ o, H a = some o → H' a = some o) : Rd H' a u := by
  rcases r with e | ⟨o, e⟩
  · exact .inl (k _ e)
  · exact .inr ⟨o, k _ e⟩
theorem Rd.some {H : Hp} {a : Addr} {u : HO} (r : Rd H a u) : H a ≠ none := by
  rcases r with e | ⟨o, e⟩ <;> (rw [e]; intro z; cases z)

theorem TabP.ext {H H' : Hp} {p a : Addr} {q : Str} (t : TabP H p q a) (e : ∀ b o, H b = some o → H' b = some o) : TabP H' p q a := ⟨t.1, t.2.ext e⟩
theorem TabS.mono {H H' : Hp} {P : Pr} {p a : Addr} {q : Str} (hm : ∀ b, P b → isMut (H b)) (k : ∀ b o, H b = some o → ¬ P b → H' b = some o) (ka : ∀ o, H a = some o → H' a = some o) (t : TabP H p q a) : TabP H' p q a := by
  obtain ⟨e, ps, h1, h2, h3⟩ := t
  refine ⟨e, ps, ka _ h1, h2, fun pos cv hc => ?_⟩
  obtain ⟨c, e1, e2⟩ := h3 pos cv hc
  exact ⟨c, e1, k _ _ e2 fun z => by have := hm c z; rw [e2] at this; exact this⟩
section
variable {K : PySem.W.Frag} {H H' : Hp}
mutual
theorem Rep.mono : ∀ (d : D) {P P' : Pr} {v : V}, (∀ b, P b → isMut (H b)) → (∀ b o, H b = some o → ¬ P b → H' b = some o) → (∀ b, P' b → P b ∨ H b = none) → Rep K H d P v → Rep K H' d P' v
  | .non, _, _, _, _, _, _, h => by unfold Rep at h ⊢; exact h
  | .bl _, _, _, _, _, _, _, h => by unfold Rep at h ⊢; exact h
  | .int _, _, _, _, _, _, _, h => by unfold Rep at h ⊢; exact h
  | .str _, _, _, _, _, _, _, h => by unfold Rep at h ⊢; exact h
  | .tup ds, P, P', v, hm, k, hp, h => by
    unfold Rep at h ⊢
    obtain ⟨a, vs, rfl, ht, hr⟩ := h
    exact ⟨a, vs, rfl, k a _ ht fun z => (hm a z).nt (.inl ht), Reps.mono ds hm k hp hr⟩
  | .ftu ds, P, P', v, hm, k, hp, h => by
    unfold Rep at h ⊢
    obtain ⟨a, vs, o, rfl, ht, hd, hr⟩ := h
    exact ⟨a, vs, o, rfl, k a _ ht fun z => (hm a z).nt (.inr ⟨o, ht⟩), hd, Reps.mono ds hm k hp hr⟩
  | .tab p q, P, P', v, hm, k, hp, h => by
    unfold Rep at h ⊢
    obtain ⟨a, rfl, ha, ht⟩ := h
    refine ⟨a, rfl, fun z => ?_, TabS.mono hm k (fun o e => k a o e ha) ht⟩
    rcases hp a z with z | z
    · exact ha z
    · obtain ⟨_, ps, h1, _⟩ := ht
      rw [h1] at z; cases z
  | .lst ds, P, P', v, hm, k, hp, h => by
    unfold Rep at h ⊢
    obtain ⟨a, vs, rfl, ha, ht, hr⟩ := h
    refine ⟨a, vs, rfl, fun z => ?_, k a _ ht ha, Reps.mono ds (P := fun b => P b ∨ b = a) (fun b z => ?_) (fun b o e n => k b o e fun z => n (.inl z)) (fun b z => ?_) hr⟩
    · rcases hp a z with z | z
      · exact ha z
      · rw [ht] at z; cases z
    · rcases z with z | rfl
      · exact hm b z
      · rw [ht]; trivial
    · rcases z with z | z
      · rcases hp b z with z | z
        · exact .inl (.inl z)
        · exact .inr z
      · exact .inl (.inr z)
  | .arg ns, P, P', v, hm, k, hp, h => by
    unfold Rep at h ⊢
    obtain ⟨a, rfl, h⟩ := h
    refine ⟨a, rfl, ?_⟩
    rcases h with ⟨ha, ht⟩ | h
    · refine .inl ⟨fun z => ?_, Rd.keep ht fun o e => k a o e ha⟩
      rcases hp a z with z | z
      · exact ha z
      · exact Rd.some ht z
    · exact .inr h
  | .dik ks ds, P, P', v, hm, k, hp, h => by
    unfold Rep at h ⊢
    obtain ⟨a, vs, rfl, ha, hl, ht, hr⟩ := h
    refine ⟨a, vs, rfl, fun z => ?_, hl, Rd.keep ht fun o e => k a o e ha, Reps.mono ds (P := fun b => P b ∨ b = a) (fun b z => ?_) (fun b o e n => k b o e fun z => n (.inl z)) (fun b z => ?_) hr⟩
    · rcases hp a z with z | z
      · exact ha z
      · exact Rd.some ht z
    · rcases z with z | rfl
      · exact hm b z
      · rcases ht with e | ⟨o, e⟩ <;> (rw [e]; trivial)
    · rcases z with z | z
      · rcases hp b z with z | z
        · exact .inl (.inl z)
        · exact .inr z
      · exact .inl (.inr z)
  | .dit ks ds, P, P', v, hm, k, hp, h => by
    unfold Rep at h ⊢
    obtain ⟨a, vs, rfl, ha, hl, ht, hr⟩ := h
    refine ⟨a, vs, rfl, fun z => ?_, hl, Rd.keep ht fun o e => k a o e ha, Reps.mono ds (P := fun b => P b ∨ b = a) (fun b z => ?_) (fun b o e n => k b o e fun z => n (.inl z)) (fun b z => ?_) hr⟩
    · rcases hp a z with z | z
      · exact ha z
      · exact Rd.some ht z
    · rcases z with z | rfl
      · exact hm b z
      · rcases ht with e | ⟨o, e⟩ <;> (rw [e]; trivial)
    · rcases z with z | z
      · rcases hp b z with z | z
        · exact .inl (.inl z)
        · exact .inr z
      · exact .inl (.inr z)
theorem Reps.mono : ∀ (ds : List D) {P P' : Pr} {vs : List V}, (∀ b, P b → isMut (H b)) → (∀ b o, H b = some o → ¬ P b → H' b = some o) → (∀ b, P' b → P b ∨ H b = none) → Reps K H ds P vs → Reps K H' ds P' vs
  | [], _, _, _, _, _, _, h => by unfold Reps at h ⊢; exact h
  | d :: ds, P, P', vs, hm, k, hp, h => by
    unfold Reps at h ⊢
    obtain ⟨v, ws, rfl, h1, h2⟩ := h
    exact ⟨v, ws, rfl, Rep.mono d hm k hp h1, Reps.mono ds hm k hp h2⟩
end
theorem Reps.length : ∀ {ds : List D} {P : Pr} {vs : List V}, Reps K H ds P vs → vs.length = ds.length
  | [], _, _, h => by unfold Reps at h; subst h; rfl
  | d :: ds, P, vs, h => by
    unfold Reps at h
    obtain ⟨v, ws, rfl, _, h2⟩ := h
    rw [List.length_cons, List.length_cons, Reps.length h2]
theorem Reps.nil {P : Pr} : Reps K H [] P [] := by unfold Reps; rfl
theorem Reps.cons {d : D} {ds : List D} {P : Pr} {v : V} {vs : List V} (h : Rep K H d P v) (h2 : Reps K H ds P vs) : Reps K H (d :: ds) P (v :: vs) := by
  unfold Reps; exact ⟨v, vs, rfl, h, h2⟩
theorem Reps.nil_iff {P : Pr} {vs : List V} (h : Reps K H [] P vs) : vs = [] := by unfold Reps at h; exact h
theorem Reps.cons_iff {d : D} {ds : List D} {P : Pr} {vs : List V} (h : Reps K H (d :: ds) P vs) : ∃ v ws, vs = v :: ws ∧ Rep K H d P v ∧ Reps K H ds P ws := by unfold Reps at h; exact h
theorem Reps.get : ∀ {ds : List D} {P : Pr} {vs : List V} {i : Nat} {d : D}, Reps K H ds P vs → ds[i]? = some d → ∃ v, vs[i]? = some v ∧ Rep K H d P v
  | [], _, _, _, _, _, e => by simp at e
  | d :: ds, P, vs, 0, d', h, e => by
    obtain ⟨v, ws, rfl, h1, _⟩ := h.cons_iff
    simp at e; subst e
    exact ⟨v, rfl, h1⟩
  | d :: ds, P, vs, i + 1, d', h, e => by
    obtain ⟨v, ws, rfl, _, h2⟩ := h.cons_iff
    simpa using Reps.get h2 (by simpa using e)
theorem Reps.append : ∀ {ds es : List D} {P : Pr} {vs ws : List V}, Reps K H ds P vs → Reps K H es P ws → Reps K H (ds ++ es) P (vs ++ ws)
  | [], _, _, _, _, h, h2 => by rw [h.nil_iff]; exact h2
  | d :: ds, es, P, vs, ws, h, h2 => by
    obtain ⟨v, us, rfl, h1, h3⟩ := h.cons_iff
    exact Reps.cons h1 (Reps.append h3 h2)
/-- forbidding less -/
theorem Rep.less {d : D} {P P' : Pr} {v : V} (hm : ∀ b, P b → isMut (H b)) (h : Rep K H d P v) (hp : ∀ b, P' b → P b) : Rep K H d P' v := h.mono d hm (fun _ _ e _ => e) fun b z => .inl (hp b z)
theorem Reps.less {ds : List D} {P P' : Pr} {vs : List V} (hm : ∀ b, P b → isMut (H b)) (h : Reps K H ds P vs) (hp : ∀ b, P' b → P b) : Reps K H ds P' vs := h.mono ds hm (fun _ _ e _ => e) fun b z => .inl (hp b z)
/-- nothing that stood is changed -/
theorem Rep.same {d : D} {P : Pr} {v : V} (hm : ∀ b, P b → isMut (H b)) (h : Rep K H d P v) (k : Same H H') : Rep K H' d P v := h.mono d hm (fun b o e _ => k b o e) fun _ z => .inl z
theorem Reps.same {ds : List D} {P : Pr} {vs : List V} (hm : ∀ b, P b → isMut (H b)) (h : Reps K H ds P vs) (k : Same H H') : Reps K H' ds P vs := h.mono ds hm (fun b o e _ => k b o e) fun _ z => .inl z
theorem mutL {a : Addr} {P : Pr} {vs : List V} (hm : ∀ b, P b → isMut (H b)) (h : H a = some (.lst vs)) : ∀ b, P b ∨ b = a → isMut (H b) := fun b z => by
  rcases z with z | rfl
  · exact hm b z
  · rw [h]; trivial
theorem mutK {a : Addr} {P : Pr} {vs : List (Key × V)} (hm : ∀ b, P b → isMut (H b)) (h : Rd H a (.dK vs)) : ∀ b, P b ∨ b = a → isMut (H b) := fun b z => by
  rcases z with z | rfl
  · exact hm b z
  · rcases h with e | ⟨o, e⟩ <;> (rw [e]; trivial)
theorem mutT {a : Addr} {P : Pr} {vs : List (List Key × V)} (hm : ∀ b, P b → isMut (H b)) (h : Rd H a (.dT vs)) : ∀ b, P b ∨ b = a → isMut (H b) := fun b z => by
  rcases z with z | rfl
  · exact hm b z
  · rcases h with e | ⟨o, e⟩ <;> (rw [e]; trivial)
theorem Rep.weak {d : D} {P : Pr} {v : V} (hm : ∀ b, P b → isMut (H b)) (h : Rep K H d P v) : RepW K H d P v := by
  cases d with
  | lst ds =>
    unfold Rep at h; unfold RepW
    obtain ⟨a, vs, rfl, _, ht, hr⟩ := h
    exact ⟨a, vs, rfl, ht, hr.less (mutL hm ht) fun b z => .inl z⟩
  | arg ns =>
    unfold Rep at h; unfold RepW
    obtain ⟨a, rfl, h⟩ := h
    rcases h with ⟨_, h⟩ | h
    · exact ⟨a, rfl, .inl h⟩
    · refine ⟨a, rfl, .inr ?_⟩
      rcases h with h | h
      · rcases h with e | ⟨o, e⟩ <;> cases e
      · exact h
  | dik ks ds =>
    unfold Rep at h; unfold RepW
    obtain ⟨a, vs, rfl, _, hl, ht, hr⟩ := h
    exact ⟨a, vs, rfl, hl, ht, hr.less (mutK hm ht) fun b z => .inl z⟩
  | dit ks ds =>
    unfold Rep at h; unfold RepW
    obtain ⟨a, vs, rfl, _, hl, ht, hr⟩ := h
    exact ⟨a, vs, rfl, hl, ht, hr.less (mutT hm ht) fun b z => .inl z⟩
  | non => exact h
  | bl _ => exact h
  | int _ => exact h
  | str _ => exact h
  | tup _ => exact h
  | ftu _ => exact h
  | tab p q => unfold Rep at h; unfold RepW; obtain ⟨a, rfl, _, ht⟩ := h; exact ⟨a, rfl, ht⟩
theorem RepO.weak {d : D} {P : Pr} {v : V} (h : RepO K H d P v) : RepW K H d P v := by
  cases d with
  | lst ds => obtain ⟨a, vs, rfl, ht, hr⟩ := h; exact ⟨a, vs, rfl, ht, hr⟩
  | dik ks ds => obtain ⟨a, vs, rfl, hl, ht, hr⟩ := h; exact ⟨a, vs, rfl, hl, .inl ht, hr⟩
  | dit ks ds => obtain ⟨a, vs, rfl, hl, ht, hr⟩ := h; exact ⟨a, vs, rfl, hl, .inl ht, hr⟩
  | non => unfold RepW Rep; exact h
  | bl _ => unfold RepW Rep; exact h
  | int _ => unfold RepW Rep; exact h
  | str _ => unfold RepW Rep; exact h
  | tup _ => exact False.elim h
  | arg _ => exact False.elim h
  | ftu _ => exact False.elim h
  | tab p q => exact h
theorem Rep.of_same {d : D} {P : Pr} {v : V} (hm : ∀ b, P b → isMut (H b)) (h : Rep K H d P v) (k : ∀ b o, H b = some o → ¬ P b → H' b = some o) : Rep K H' d P v := h.mono d hm k fun _ z => .inl z
/-- a new list, tuple -/
theorem Rep.newL {ds : List D} {P : Pr} {vs : List V} {p : Addr} (hm : ∀ b, P b → isMut (H b)) (h : Reps K H ds P vs) (hp : H p = none) : Rep K (upd H p (.lst vs)) (.lst ds) P (.ref p) := by
  unfold Rep
  refine ⟨p, vs, rfl, fun z => (hm p z).some hp, upd_same, h.mono ds hm (fun b o e _ => ?_) fun b z => ?_⟩
  · rw [upd_ne (ne_of_none e hp)]; exact e
  · rcases z with z | rfl
    · exact .inl z
    · exact .inr hp
theorem Rep.newT {ds : List D} {P : Pr} {vs : List V} {p : Addr} (hm : ∀ b, P b → isMut (H b)) (h : Reps K H ds P vs) (hp : H p = none) : Rep K (upd H p (.tup vs)) (.tup ds) P (.ref p) := by
  unfold Rep
  refine ⟨p, vs, rfl, upd_same, h.mono ds hm (fun b o e _ => ?_) fun b z => .inl z⟩
  rw [upd_ne (ne_of_none e hp)]; exact e
theorem Same.new {p : Addr} {o : HO} (hp : H p = none) : Same H (upd H p o) := fun b u e => by rw [upd_ne (ne_of_none e hp)]; exact e
end

/-- the own slots' objects -/
def OA (O : List Nat) (σ : St) (b : Addr) : Prop := ∃ i, i ∈ O ∧ σ[i]? = some (some (.ref b))
def FA (P0 : Pr) (O : List Nat) (σ : St) : Pr := fun b => P0 b ∨ OA O σ b
/-- the names' data ρ lie in the slots σ over H. P0: forbidden here; O: the own slots, whose lists and dicts this def may change: nothing else leads to them -/
structure Sim (K : PySem.W.Frag) (P0 : Pr) (O W : List Nat) (ρ : Env) (σ : St) (H : Hp) : Prop where
  sub : ∀ i ∈ W, i ∈ O
  len : ρ.length ≤ σ.length
  dom : ∀ b, FA P0 O σ b → isMut (H b)
  val : ∀ i d, ρ[i]? = some (some d) → i ∉ O → ∃ v, σ[i]? = some (some v) ∧ Rep K H d (FA P0 O σ) v
  own : ∀ i d, ρ[i]? = some (some d) → i ∈ O → ∃ v, σ[i]? = some (some v) ∧ RepO K H d (FA P0 O σ) v
  sep : ∀ i j a, i ∈ O → j ∈ O → σ[i]? = some (some (.ref a)) → σ[j]? = some (some (.ref a)) → i = j
  sep0 : ∀ a, OA O σ a → ¬ P0 a
/-- what an expression may do to the heap -/
structure Keep (O : List Nat) (σ : St) (H H' : Hp) : Prop where
  keep : ∀ b o, H b = some o → ¬ OA O σ b → H' b = some o
  some : ∀ b, H b ≠ none → H' b ≠ none
theorem Keep.refl {W : List Nat} {σ : St} {H : Hp} : Keep W σ H H := ⟨fun _ _ e _ => e, fun _ e => e⟩
theorem Keep.trans {W : List Nat} {σ : St} {H H1 H2 : Hp} (a : Keep W σ H H1) (b : Keep W σ H1 H2) : Keep W σ H H2 :=
  ⟨fun c o e n => b.keep c o (a.keep c o e n) n, fun c e => b.some c (a.some c e)⟩
theorem Keep.same {W : List Nat} {σ : St} {H H' : Hp} (k : Same H H') : Keep W σ H H' := ⟨fun b o e _ => k b o e, fun b e => by
  cases q : H b with
  | none => exact absurd q e
  | some o => rw [k b o q]; intro z; cases z⟩
section
variable {K : PySem.W.Frag} {P0 : Pr} {O W : List Nat} {ρ ρ' : Env} {σ : St} {H H' : Hp}
theorem Sim.oaw (S : Sim K P0 O W ρ σ H) {b : Addr} (z : OA W σ b) : OA O σ b := let ⟨i, hi, e⟩ := z; ⟨i, S.sub i hi, e⟩
theorem Sim.rep (S : Sim K P0 O W ρ σ H) (k : Keep W σ H H') {d : D} {v : V} (h : Rep K H d (FA P0 O σ) v) : Rep K H' d (FA P0 O σ) v :=
  h.of_same S.dom fun b o e n => k.keep b o e fun z => n (.inr (S.oaw z))
/-- all that stood stands -/
theorem Sim.same (S : Sim K P0 O W ρ σ H) (k : Same H H') : Sim K P0 O W ρ σ H' where
  sub := S.sub
  len := S.len
  dom := fun b z => by
    have q := S.dom b z
    cases e : H b with
    | none => rw [e] at q; exact q.elim
    | some o => rw [k b o e, ← e]; exact q
  val := fun i d e n => let ⟨v, h1, h2⟩ := S.val i d e n; ⟨v, h1, h2.same S.dom k⟩
  own := fun i d e n => by
    obtain ⟨v, h1, h2⟩ := S.own i d e n
    refine ⟨v, h1, ?_⟩
    cases d with
    | lst ds => obtain ⟨a, vs, rfl, ht, hr⟩ := h2; exact ⟨a, vs, rfl, k _ _ ht, hr.same S.dom k⟩
    | dik ks ds => obtain ⟨a, vs, rfl, hl, ht, hr⟩ := h2; exact ⟨a, vs, rfl, hl, k _ _ ht, hr.same S.dom k⟩
    | dit ks ds => obtain ⟨a, vs, rfl, hl, ht, hr⟩ := h2; exact ⟨a, vs, rfl, hl, k _ _ ht, hr.same S.dom k⟩
    | non => exact h2
    | bl _ => exact h2
    | int _ => exact h2
    | str _ => exact h2
    | tup _ => exact h2
    | arg _ => exact h2
    | ftu _ => exact h2
    | tab p q => obtain ⟨a, rfl, ht⟩ := h2; exact ⟨a, rfl, ht.ext k⟩
  sep := S.sep
  sep0 := S.sep0
/-- what lies in a slot, for reading -/
theorem Sim.look (S : Sim K P0 O W ρ σ H) {i : Nat} {d : D} (h : look i ρ = .ok d) : ∃ v, σ[i]? = some (some v) ∧ RepW K H d (FA P0 O σ) v := by
  unfold Y.look at h
  split at h
  · rename_i d' e
    cases h
    by_cases hi : i ∈ O
    · obtain ⟨v, h1, h2⟩ := S.own i d e hi
      exact ⟨v, h1, h2.weak⟩
    · obtain ⟨v, h1, h2⟩ := S.val i d e hi
      exact ⟨v, h1, h2.weak S.dom⟩
  · cases h
end
/-- what a handle says of a value; Hs: the heap ahead -/
def HdR (K : PySem.W.Frag) (P0 : Pr) (O : List Nat) (Hs : Hp) (σ : St) (H : Hp) : Hd → V → Prop
  | .fr d, v => Rep K H d (FA P0 O σ) v ∧ (d.isMu = true → ∀ a, v = .ref a → Hs a = none)
  | .vl d, v => Rep K H d (FA P0 O σ) v
  | .ow i, v => i ∈ O ∧ σ[i]? = some (some v)
section
variable {K : PySem.W.Frag} {P0 : Pr} {O W : List Nat} {ρ ρ' : Env} {σ : St} {Hs Hs' H H' : Hp}
theorem HdR.keep (S : Sim K P0 O W ρ σ H) (k : Keep W σ H H') {h : Hd} {v : V} (r : HdR K P0 O Hs σ H h v) : HdR K P0 O Hs σ H' h v := by
  cases h with
  | fr d => exact ⟨S.rep k r.1, r.2⟩
  | vl d => exact S.rep k r
  | ow i => exact r
/-- ahead of that -/
theorem HdR.back (k : ∀ b, Hs' b ≠ none → Hs b ≠ none) {h : Hd} {v : V} (r : HdR K P0 O Hs σ H h v) : HdR K P0 O Hs' σ H h v := by
  cases h with
  | fr d => exact ⟨r.1, fun m a e => Classical.byContradiction fun z => k a z (r.2 m a e)⟩
  | vl d => exact r
  | ow i => exact r
theorem HdR.d (S : Sim K P0 O W ρ σ H) {h : Hd} {v : V} {d : D} (r : HdR K P0 O Hs σ H h v) (e : h.d ρ = .ok d) : RepW K H d (FA P0 O σ) v := by
  cases h with
  | fr d' => cases e; exact r.1.weak S.dom
  | vl d' => cases e; exact Rep.weak S.dom r
  | ow i =>
    obtain ⟨w, h1, h2⟩ := S.look e
    have q : σ[i]? = some (some v) := r.2
    rw [q] at h1; cases h1
    exact h2
theorem HdR.v {h : Hd} {v : V} {d : D} (r : HdR K P0 O Hs σ H h v) (e : h.v = .ok d) : Rep K H d (FA P0 O σ) v := by
  cases h with
  | fr d' => cases e; exact r.1
  | vl d' => cases e; exact r
  | ow i => cases e
end
end Y

set_option Elab.async false
set_option linter.all false
set_option maxRecDepth 100000
namespace Y
open PySem PySem.Spec PyProof.Rows L2

/-- no exception is told on -/
def R.nox {α : Type} : R α → R α
  | .er _ _ => .stk
  | x => x
@[simp] theorem R.nox_ok {α : Type} (a : α) : (R.ok a).nox = .ok a := id rfl
@[simp] theorem R.nox_stk {α : Type} : (R.stk : R α).nox = .stk := id rfl
abbrev EK := Str → List D → Hp → Prop
def Res (E : EK) (W : List Nat) (σ : St) (H : Hp) {α : Type} (r : R α) (k : α → Prop) : Prop := match r with
  | .ok a => k a
  | .er c ds => ∀ H', Keep W σ H H' → E c ds H'
  | .stk => False
section
variable {E : EK} {O W : List Nat} {σ : St} {H H1 : Hp} {α β : Type}
theorem Res.of_bind {r : R α} {f : α → R β} {k : β → Prop} (h : Res E W σ H (r >>= f) k) : Res E W σ H r fun a => Res E W σ H (f a) k := by cases r <;> exact h
theorem Res.mono {r : R α} {k k' : α → Prop} (h : Res E W σ H r k) (i : ∀ a, k a → k' a) : Res E W σ H r k' := by
  cases r with
  | ok a => exact i a h
  | er c ds => exact h
  | stk => exact h
theorem Res.keep {r : R α} {k : α → Prop} (h : Res E W σ H r k) (kp : Keep W σ H H1) : Res E W σ H1 r k := by
  cases r with
  | ok a => exact h
  | er c ds => exact fun H' k2 => h H' (kp.trans k2)
  | stk => exact h
theorem Res.of_nox {r : R α} {f : α → R β} {k : β → Prop} (h : Res E W σ H (r.nox >>= f) k) : ∃ a, r = .ok a ∧ Res E W σ H (f a) k := by
  cases r with
  | ok a => exact ⟨a, rfl, h⟩
  | er c ds => exact h.elim
  | stk => exact h.elim
theorem Res.of_nox1 {r : R α} {k : α → Prop} (h : Res E W σ H r.nox k) : ∃ a, r = .ok a ∧ k a := by
  cases r with
  | ok a => exact ⟨a, rfl, h⟩
  | er c ds => exact h.elim
  | stk => exact h.elim
end

def tM (K : PySem.W.Frag) (P0 : Pr) (O W : List Nat) (E : EK) (m : EM) : TE := fun σ H Q => ∃ ρ, Sim K P0 O W ρ σ H ∧
  Res E W σ H (m ρ) fun a => ∀ v H', Sim K P0 O W a.2 σ H' → Keep W σ H H' → HdR K P0 O H σ H' a.1 v → Q v H'
/-- several, from the left -/
def HdRs (K : PySem.W.Frag) (P0 : Pr) (O : List Nat) (Hs : Hp) (σ : St) (H : Hp) : List Hd → List V → Prop
  | [], vs => vs = []
  | h :: hs, vs => ∃ v ws, vs = v :: ws ∧ HdR K P0 O Hs σ H h v ∧ HdRs K P0 O Hs σ H hs ws
abbrev AM := Env → R (List Hd × Env)
def tMs (K : PySem.W.Frag) (P0 : Pr) (O W : List Nat) (E : EK) (m : AM) : TA := fun σ H Q => ∃ ρ, Sim K P0 O W ρ σ H ∧
  Res E W σ H (m ρ) fun a => ∀ vs H', Sim K P0 O W a.2 σ H' → Keep W σ H H' → HdRs K P0 O H σ H' a.1 vs → Q vs H'
abbrev BM := Env → R (Bool × Env)
def tMt (K : PySem.W.Frag) (P0 : Pr) (O W : List Nat) (E : EK) (m : BM) : TT := fun σ H Q => ∃ ρ, Sim K P0 O W ρ σ H ∧
  Res E W σ H (m ρ) fun a => ∀ H', Sim K P0 O W a.2 σ H' → Keep W σ H H' → Q a.1 H'
theorem PE.imp {X : Cx} {e : Expr} {t t' : TE} (h : PE X e t) (i : ∀ σ H Q, t' σ H Q → t σ H Q) : PE X e t' := ⟨fun pins s σ H Q I q => h.run pins s σ H Q I (i σ H Q q)⟩
theorem PT.imp {X : Cx} {e : Expr} {t t' : TT} (h : PT X e t) (i : ∀ σ H Q, t' σ H Q → t σ H Q) : PT X e t' := ⟨fun pins s σ H Q I q => h.run pins s σ H Q I (i σ H Q q)⟩
theorem PW.imp {X : Cx} {e : Expr} {t t' : TT} (h : PW X e t) (i : ∀ σ H Q, t' σ H Q → t σ H Q) : PW X e t' := ⟨fun w pins s σ H Q I q => h.run w pins s σ H Q I (i σ H Q q)⟩
theorem PA.imp {X : Cx} {e : List Expr} {t t' : TA} (h : PA X e t) (i : ∀ σ H Q, t' σ H Q → t σ H Q) : PA X e t' := ⟨fun p pins s σ H Q I q => h.run p pins s σ H Q I (i σ H Q q)⟩
theorem PS.imp {X : Cx} {e : Stmt} {t t' : TS} (h : PS X e t) (i : ∀ D σ H, t' D σ H → t D σ H) : PS X e t' := ⟨fun pins s σ H D I q => h.run pins s σ H D I (i D σ H q)⟩
theorem PSs.imp {X : Cx} {e : List Stmt} {t t' : TS} (h : PSs X e t) (i : ∀ D σ H, t' D σ H → t D σ H) : PSs X e t' := ⟨fun pins s σ H D I q => h.run pins s σ H D I (i D σ H q)⟩
theorem PE.or {X : Cx} {e : Expr} {t t' : TE} (h : PE X e t) (h' : PE X e t') : PE X e fun σ H Q => t σ H Q ∨ t' σ H Q :=
  ⟨fun pins s σ H Q I q => q.elim (h.run pins s σ H Q I) (h'.run pins s σ H Q I)⟩
section
variable {K : PySem.W.Frag} {P0 : Pr} {O W : List Nat} {ρ ρ' : Env} {σ : St} {Hs Hs' H H' : Hp}
theorem HdRs.keep (S : Sim K P0 O W ρ σ H) (k : Keep W σ H H') : ∀ {hs : List Hd} {vs : List V}, HdRs K P0 O Hs σ H hs vs → HdRs K P0 O Hs σ H' hs vs
  | [], _, r => r
  | h :: hs, _, ⟨v, ws, e, r1, r2⟩ => ⟨v, ws, e, r1.keep S k, HdRs.keep S k r2⟩
theorem HdRs.back (k : ∀ b, Hs' b ≠ none → Hs b ≠ none) : ∀ {hs : List Hd} {vs : List V}, HdRs K P0 O Hs σ H hs vs → HdRs K P0 O Hs' σ H hs vs
  | [], _, r => r
  | h :: hs, _, ⟨v, ws, e, r1, r2⟩ => ⟨v, ws, e, r1.back k, HdRs.back k r2⟩
end

def cVar (i : Nat) : EM := fun ρ => do
  let d ← (look i ρ).nox
  pure (.vl d, ρ)
def cOwn (i : Nat) : EM := fun ρ => do
  let _ ← (look i ρ).nox
  pure (.ow i, ρ)
def cC (d : D) : EM := fun ρ => .ok (.fr d, ρ)
theorem look_some {i : Nat} {ρ : Env} {d : D} (h : look i ρ = .ok d) : ρ[i]? = some (some d) := by
  unfold look at h
  split at h
  · rename_i e; cases h; exact e
  · cases h
section
variable {X : Cx} {P0 : Pr} {O W : List Nat} {E : EK} {pos : Pos}
abbrev CEx (X : Cx) (P0 : Pr) (O W : List Nat) (E : EK) (e : Expr) (m : EM) : Prop := PE X e (tM X.K P0 O W E m)
theorem ce_var (i : Nat) {x : Str} (ho : i ∉ O := by decide) (hN : X.N[i]? = some x := by rfl) (hv : Vis X.env.scope x := by first | exact Or.inl rfl | exact Or.inr (Or.inl rfl) | exact Or.inr (Or.inr rfl)) (hd : (x == ("__debug__" : Str)) = false := by decide)
    (hcd : (x == ("__classdict__" : Str)) = false := by decide) : CEx X P0 O W E (.Name x pos) (cVar i) := PE.imp (pe_var (i := i) hN hv hd hcd) fun σ H Q ⟨ρ, S, h⟩ => by
  obtain ⟨d, e, h⟩ := h.of_nox
  obtain ⟨v, h1, h2⟩ := S.val i d (look_some e) ho
  exact ⟨v, h1, h v H S .refl h2⟩
theorem ce_own (i : Nat) {x : Str} (ho : i ∈ O := by decide) (hN : X.N[i]? = some x := by rfl) (hv : Vis X.env.scope x := by first | exact Or.inl rfl | exact Or.inr (Or.inl rfl) | exact Or.inr (Or.inr rfl)) (hd : (x == ("__debug__" : Str)) = false := by decide)
    (hcd : (x == ("__classdict__" : Str)) = false := by decide) : CEx X P0 O W E (.Name x pos) (cOwn i) := PE.imp (pe_var (i := i) hN hv hd hcd) fun σ H Q ⟨ρ, S, h⟩ => by
  obtain ⟨d, e, h⟩ := h.of_nox
  obtain ⟨v, h1, h2⟩ := S.own i d (look_some e) ho
  exact ⟨v, h1, h v H S .refl ⟨ho, h1⟩⟩
theorem c_of {v : V} {d : D} (h : ∀ H P, Rep X.K H d P v) (hm : d.isMu = false) : ∀ σ H Q, tM X.K P0 O W E (cC d) σ H Q → tC v σ H Q := fun σ H Q ⟨ρ, S, q⟩ =>
  q v H S .refl ⟨h _ _, fun z => by rw [hm] at z; cases z⟩
theorem ce_int {i j} : CEx X P0 O W E (.Constant (.int i) j pos) (cC (.int i)) := PE.imp pe_int (c_of (fun _ _ => by unfold Rep; rfl) rfl)
theorem ce_bl {i j} : CEx X P0 O W E (.Constant (.bool i) j pos) (cC (.bl i)) := PE.imp pe_bl (c_of (fun _ _ => by unfold Rep; rfl) rfl)
theorem ce_str {i j} : CEx X P0 O W E (.Constant (.str i) j pos) (cC (.str i)) := PE.imp pe_str (c_of (fun _ _ => by unfold Rep; rfl) rfl)
theorem ce_non {j} : CEx X P0 O W E (.Constant .none j pos) (cC .non) := PE.imp pe_non (c_of (fun _ _ => by unfold Rep; rfl) rfl)
/-- a module's constant: a number, a text, True, None -/
theorem ce_glob {x : Str} {v : V} {d : D} {u : Value} (h : ∀ H P, Rep X.K H d P v) (hm : d.isMu = false) (r : RelV v u) (hx : X.mg x = some u) (hg : Gl X x := by rfl) (hd : (x == ("__debug__" : Str)) = false := by decide) : CEx X P0 O W E (.Name x pos) (cC d) :=
  PE.imp (pe_glob hg hx r hd) (c_of h hm)
end

def cOp (f : D → D → R D) (a b : EM) : EM := fun ρ => do
  let (h1, ρ1) ← a ρ
  let (h2, ρ2) ← b ρ1
  let x ← (h1.d ρ2).nox
  let y ← (h2.d ρ2).nox
  let z ← (f x y).nox
  pure (.fr z, ρ2)
/-- what is told on of an operation: new data -/
def Out (K : PySem.W.Frag) (P : Pr) (H : Hp) (d : D) (Q : VK) : Prop := ∀ v H', Same H H' → Rep K H' d P v → (d.isMu = true → ∀ a, v = .ref a → H a = none) → Q v H'
def rD (K : PySem.W.Frag) (f : D → D → R D) : R2 := fun x y H Q => ∃ (P : Pr) (dx dy dz : D), (∀ b, P b → isMut (H b)) ∧ RepW K H dx P x ∧ RepW K H dy P y ∧ f dx dy = .ok dz ∧ Out K P H dz Q
theorem Same.some {H H' : Hp} (k : Same H H') : ∀ b, H b ≠ none → H' b ≠ none := fun b e => by
  cases q : H b with
  | none => exact absurd q e
  | some o => rw [k b o q]; intro z; cases z
section
variable {K : PySem.W.Frag} {P0 : Pr} {O W : List Nat} {E : EK}
/-- an operation's end, told to what follows -/
theorem out_of {ρ : Env} {σ : St} {H H1 : Hp} {Q : VK} {d : D} (S : Sim K P0 O W ρ σ H1) (k : Keep W σ H H1)
    (h : ∀ v H', Sim K P0 O W ρ σ H' → Keep W σ H H' → HdR K P0 O H σ H' (.fr d) v → Q v H') : Out K (FA P0 O σ) H1 d Q := fun v H' sm r fr =>
  h v H' (S.same sm) (k.trans (Keep.same sm)) ⟨r, fun m a e => Classical.byContradiction fun z => k.some a z (fr m a e)⟩
theorem tM_op {f : D → D → R D} {a b : EM} (σ : St) (H : Hp) (Q : VK) (h : tM K P0 O W E (cOp f a b) σ H Q) : tOp (rD K f) (tM K P0 O W E a) (tM K P0 O W E b) σ H Q := by
  obtain ⟨ρ, S, h⟩ := h
  refine ⟨ρ, S, h.of_bind.mono fun ⟨h1, ρ1⟩ q x H1 S1 k1 r1 => ⟨ρ1, S1, (q.keep k1).of_bind.mono fun ⟨h2, ρ2⟩ q2 y H2 S2 k2 r2 => ?_⟩⟩
  obtain ⟨dx, e1, q3⟩ := q2.of_nox
  obtain ⟨dy, e2, q4⟩ := q3.of_nox
  obtain ⟨dz, e3, q5⟩ := q4.of_nox
  exact ⟨FA P0 O σ, dx, dy, dz, S2.dom, (r1.keep S1 k2).d S2 e1, r2.d S2 e2, e3, out_of S2 (k1.trans k2) q5⟩
/-- new data of no object -/
theorem Out.flat {P : Pr} {H : Hp} {d : D} {v : V} {Q : VK} (h : Out K P H d Q) (r : Rep K H d P v) (hm : d.isMu = false) : Q v H := h v H (fun _ _ e => e) r fun z => by rw [hm] at z; cases z
theorem Out.int {P : Pr} {H : Hp} {i : Int} {Q : VK} (h : Out K P H (.int i) Q) : Q (.int i) H := h.flat (by unfold Rep; rfl) rfl
theorem Out.bl {P : Pr} {H : Hp} {i : Bool} {Q : VK} (h : Out K P H (.bl i) Q) : Q (.bl i) H := h.flat (by unfold Rep; rfl) rfl
theorem Out.str {P : Pr} {H : Hp} {i : Str} {Q : VK} (h : Out K P H (.str i) Q) : Q (.str i) H := h.flat (by unfold Rep; rfl) rfl
theorem Out.non {P : Pr} {H : Hp} {Q : VK} (h : Out K P H .non Q) : Q .non H := h.flat (by unfold Rep; rfl) rfl
theorem Out.newL {P : Pr} {H : Hp} {ds : List D} {vs : List V} {Q : VK} (h : Out K P H (.lst ds) Q) (hm : ∀ b, P b → isMut (H b)) (r : Reps K H ds P vs) {p : Addr} (hp : H p = none) : Q (.ref p) (upd H p (.lst vs)) :=
  h _ _ (Same.new hp) (Rep.newL hm r hp) fun _ a e => by cases e; exact hp
theorem Out.newT {P : Pr} {H : Hp} {ds : List D} {vs : List V} {Q : VK} (h : Out K P H (.tup ds) Q) (hm : ∀ b, P b → isMut (H b)) (r : Reps K H ds P vs) {p : Addr} (hp : H p = none) : Q (.ref p) (upd H p (.tup vs)) :=
  h _ _ (Same.new hp) (Rep.newT hm r hp) fun z => by cases z
/-- reading a datum's form -/
theorem RepW.int {H : Hp} {i : Int} {P : Pr} {v : V} (h : RepW K H (.int i) P v) : v = .int i := by unfold RepW Rep at h; exact h
theorem RepW.bl {H : Hp} {i : Bool} {P : Pr} {v : V} (h : RepW K H (.bl i) P v) : v = .bl i := by unfold RepW Rep at h; exact h
theorem RepW.str {H : Hp} {i : Str} {P : Pr} {v : V} (h : RepW K H (.str i) P v) : v = .str i := by unfold RepW Rep at h; exact h
theorem RepW.non {H : Hp} {P : Pr} {v : V} (h : RepW K H .non P v) : v = .non := by unfold RepW Rep at h; exact h
theorem RepW.tup {H : Hp} {ds : List D} {P : Pr} {v : V} (h : RepW K H (.tup ds) P v) : ∃ a vs, v = .ref a ∧ H a = some (.tup vs) ∧ Reps K H ds P vs := by unfold RepW Rep at h; exact h
theorem RepW.ftu {H : Hp} {ds : List D} {P : Pr} {v : V} (h : RepW K H (.ftu ds) P v) : ∃ a vs o, v = .ref a ∧ H a = some (.frz o (.tup vs)) ∧ o.dict = none ∧ Reps K H ds P vs := by unfold RepW Rep at h; exact h
theorem SqT.fz {H : Hp} {a : Addr} {o : Obj} {vs : List V} (h : H a = some (.frz o (.tup vs))) : SqT K H a vs := .inl (.inr ⟨o, h⟩)
theorem RepW.lst {H : Hp} {ds : List D} {P : Pr} {v : V} (h : RepW K H (.lst ds) P v) : ∃ a vs, v = .ref a ∧ H a = some (.lst vs) ∧ Reps K H ds P vs := h
theorem RepW.arg {H : Hp} {ds : List Int} {P : Pr} {v : V} (h : RepW K H (.arg ds) P v) : ∃ a, v = .ref a ∧ SqL K H a (ds.map V.int) := h
theorem Rep.ftu_of {H : Hp} {ds : List D} {P : Pr} {a : Addr} {o : Obj} {vs : List V} (h : H a = some (.frz o (.tup vs))) (hd : o.dict = none) (r : Reps K H ds P vs) : Rep K H (.ftu ds) P (.ref a) := by unfold Rep; exact ⟨a, vs, o, rfl, h, hd, r⟩
theorem Rep.tup_of {H : Hp} {ds : List D} {P : Pr} {a : Addr} {vs : List V} (h : H a = some (.tup vs)) (r : Reps K H ds P vs) : Rep K H (.tup ds) P (.ref a) := by unfold Rep; exact ⟨a, vs, rfl, h, r⟩
/-- a list or a tuple, for reading -/
def seqOf : D → Option (List D)
  | .lst ds => some ds
  | .tup ds => some ds
  | .arg ns => some (ns.map D.int)
  | .ftu ds => some ds
  | _ => none
theorem reps_ints {H : Hp} {P : Pr} : ∀ ns : List Int, Reps K H (ns.map D.int) P (ns.map V.int)
  | [] => Reps.nil
  | n :: ns => Reps.cons (by unfold Rep; rfl) (reps_ints ns)
theorem RepW.seq {H : Hp} {d : D} {ds : List D} {P : Pr} {v : V} (h : RepW K H d P v) (e : seqOf d = some ds) : ∃ a vs, v = .ref a ∧ (SqL K H a vs ∨ SqT K H a vs) ∧ Reps K H ds P vs := by
  cases d <;> simp only [seqOf, Option.some.injEq, reduceCtorEq] at e
  · subst e; obtain ⟨a, vs, rfl, h1, h2⟩ := h.tup; exact ⟨a, vs, rfl, .inr (SqT.of h1), h2⟩
  · subst e; obtain ⟨a, vs, rfl, h1, h2⟩ := h.lst; exact ⟨a, vs, rfl, .inl (SqL.of h1), h2⟩
  · subst e; obtain ⟨a, rfl, h1⟩ := h.arg; exact ⟨a, _, rfl, .inl h1, reps_ints _⟩
  · subst e; obtain ⟨a, vs, o, rfl, h1, _, h2⟩ := h.ftu; exact ⟨a, vs, rfl, .inr (SqT.fz h1), h2⟩
end

/-- sizes that the machine bears -/
def szOk (n : Nat) : Bool := decide (n ≤ sizeLine)
def addD : D → D → R D
  | .int i, .int j => .ok (.int (i + j))
  | .str x, .str y => if szOk (x.length + y.length) = true then .ok (.str (x ++ y)) else .stk
  | .tup x, .tup y => if szOk (x.length + y.length) = true then .ok (.tup (x ++ y)) else .stk
  | .lst x, .lst y => if szOk (x.length + y.length) = true then .ok (.lst (x ++ y)) else .stk
  | _, _ => .stk
def subD : D → D → R D
  | .int i, .int j => .ok (.int (i - j))
  | _, _ => .stk
/-- either factor is small, or both are of at most 2 ^ 26 bits -/
def mulOk (i j : Int) : Bool := decide (i.natAbs < 2 ^ 64) || decide (j.natAbs < 2 ^ 64) || decide (i.natAbs.log2 < 2 ^ 26 - 8 ∧ j.natAbs.log2 < 2 ^ 26 - 8)
/-- a text as many times as told -/
def repS (k : Int) (x : Str) : Str := if k < 1 then Str.empty else if (k == 1 || x.length == 0) = true then x else ⟨(List.replicate k.toNat x.cps).foldl (· ++ ·) #[]⟩
def mulD : D → D → R D
  | .int i, .int j => if mulOk i j = true then .ok (.int (i * j)) else .stk
  | .lst x, .int k => if k < 2 ^ 20 ∧ -(2 ^ 20) < k ∧ szOk (x.length * k.toNat) = true then .ok (.lst (List.replicate k.toNat x).flatten) else .stk
  | .str x, .int k => if k < 2 ^ 20 ∧ -(2 ^ 20) < k ∧ szOk (x.length * k.toNat) = true then .ok (.str (repS k x)) else .stk
  | .tup x, .int k => if x.isEmpty = false ∧ -(2 ^ 20) < k ∧ k ≤ 1000 ∧ x.length ≤ 1000 then .ok (.tup (List.replicate k.toNat x).flatten) else .stk
  | _, _ => .stk
def smallPos (j : Int) : Bool := decide (0 < j ∧ j < 1073741824)
def fdivD : D → D → R D
  | .int i, .int j => if smallPos j = true then .ok (.int (i / j)) else .stk
  | _, _ => .stk
def modD : D → D → R D
  | .int i, .int j => if 0 < j then .ok (.int (i % j)) else .stk
  | _, _ => .stk
theorem mulOk_ok {i j : Int} (h : mulOk i j = true) : IntMulOk i j := by
  unfold mulOk at h
  simp only [Bool.or_eq_true, decide_eq_true_eq] at h
  rcases h with (h | h) | ⟨h1, h2⟩
  · exact IntMulOk.of_left (intBits_le_64 (by omega) (by omega))
  · exact IntMulOk.of_right (intBits_le_64 (by omega) (by omega))
  · have b : ∀ x : Int, Builtin.Int.intBits x ≤ x.natAbs.log2 + 1 := fun x => by
      unfold Builtin.Int.intBits
      split <;> omega
    have h3 := b i
    have h4 := b j
    have e : bitsLine = 134217728 := by decide
    unfold IntMulOk
    intro z
    rw [Bool.and_eq_true] at z
    have z2 := z.2
    unfold Builtin.Int.intTooBig at z2
    have z3 := of_decide_eq_true z2
    rw [e] at z3
    omega
section
variable {X : Cx}
theorem od_int {f : Value → Value → Sem Value} {g : D → D → R D} {C : Int → Int → Prop} {h : Int → Int → Int} (ho : OpR X f (rI C fun i j => .int (h i j))) (hg : ∀ x y z, g x y = .ok z → ∃ i j, x = .int i ∧ y = .int j ∧ z = .int (h i j) ∧ C i j) : OpR X f (rD X.K g) := by
  intro pins s σ H x y v u Q I rx ry ⟨P, dx, dy, dz, hm, r1, r2, e, out⟩
  obtain ⟨i, j, rfl, rfl, rfl, c⟩ := hg dx dy dz e
  obtain rfl := r1.int
  obtain rfl := r2.int
  exact ho pins s σ H _ _ v u Q I rx ry ⟨i, j, rfl, rfl, c, out.int⟩
theorem od_sub : OpR X (binaryOp .Sub) (rD X.K subD) := od_int (C := fun _ _ => True) (h := fun i j => i - j) (fun pins s σ H x y v u Q I rx ry ⟨i, j, e1, e2, _, q⟩ => op_sub pins s σ H x y v u Q I rx ry ⟨i, j, e1, e2, q⟩) fun x y z e => by
  cases x <;> cases y <;> simp only [subD, R.ok.injEq, reduceCtorEq] at e
  exact ⟨_, _, rfl, rfl, e.symm, trivial⟩
theorem od_fdiv : OpR X (binaryOp .FloorDiv) (rD X.K fdivD) := od_int op_fdiv fun x y z e => by
  cases x <;> cases y <;> simp only [fdivD, R.ok.injEq, reduceCtorEq] at e
  split at e
  · rename_i c; cases e; exact ⟨_, _, rfl, rfl, rfl, by unfold smallPos at c; have c := of_decide_eq_true c; exact c⟩
  · cases e
theorem od_mod : OpR X (binaryOp .Mod) (rD X.K modD) := od_int op_mod fun x y z e => by
  cases x <;> cases y <;> simp only [modD, R.ok.injEq, reduceCtorEq] at e
  split at e
  · rename_i c; cases e; exact ⟨_, _, rfl, rfl, rfl, c⟩
  · cases e
theorem od_add : OpR X (binaryOp .Add) (rD X.K addD) := by
  intro pins s σ H x y v u Q I rx ry ⟨P, dx, dy, dz, hm, r1, r2, e, out⟩
  cases dx <;> cases dy <;> simp only [addD, R.ok.injEq, reduceCtorEq] at e
  · subst e
    obtain rfl := r1.int
    obtain rfl := r2.int
    exact op_add pins s σ H _ _ v u Q I rx ry ⟨_, _, rfl, rfl, out.int⟩
  · split at e
    · rename_i c; cases e
      obtain rfl := r1.str
      obtain rfl := r2.str
      exact op_add_str pins s σ H _ _ v u Q I rx ry ⟨_, _, rfl, rfl, of_decide_eq_true c, out.str⟩
    · cases e
  · split at e
    · rename_i c; cases e
      obtain ⟨a, vs, rfl, h1, h2⟩ := r1.tup
      obtain ⟨b, ws, rfl, h3, h4⟩ := r2.tup
      refine op_catA pins s σ H _ _ v u Q I rx ry ⟨a, b, vs, ws, rfl, rfl, SqT.of h1, SqT.of h3, by rw [h2.length, h4.length]; exact of_decide_eq_true c, fun z => ?_, fun _ z => ?_, fun _ _ p hp => out.newT hm (h2.append h4) hp⟩
      · subst z
        have z := h2.length
        have z := List.length_eq_zero_iff.mp (show _ = 0 from z.symm)
        subst z
        rw [List.nil_append] at out
        exact out.flat (Rep.tup_of h3 h4) rfl
      · subst z
        have z := h4.length
        have z := List.length_eq_zero_iff.mp (show _ = 0 from z.symm)
        subst z
        rw [List.append_nil] at out
        exact out.flat (Rep.tup_of h1 h2) rfl
    · cases e
  · split at e
    · rename_i c; cases e
      obtain ⟨a, vs, rfl, h1, h2⟩ := r1.lst
      obtain ⟨b, ws, rfl, h3, h4⟩ := r2.lst
      exact op_cat pins s σ H _ _ v u Q I rx ry ⟨a, b, vs, ws, rfl, rfl, h1, h3, by rw [h2.length, h4.length]; exact of_decide_eq_true c, fun p hp => out.newL hm (h2.append h4) hp⟩
    · cases e
end
end Y

set_option Elab.async false
set_option linter.all false
set_option maxRecDepth 100000
namespace Y
open PySem PySem.Spec PyProof.Rows L2

section
open PySem.AutoSeq1 (wpAny_loadPart')
theorem tuple_mulS (l : Addr) (items : Array Value) (n : Nat) (dd : Option Addr) (sl : Array (Option Value)) (x : Int) (u : Tok) (c0 : (decide (x < -(2 ^ 63)) || decide (x ≥ 2 ^ 63)) = false) (c1 : (items.isEmpty || x == 1) = true) :
    Meets (Builtin.«tuple.__mul__» ⟨[.ref l, .int x u], []⟩) (fun _ R s => s.heap.get? l = some { cls := .type "tuple", dict := dd, data := .seq items n, slots := sl } ∧
      R (.ok (.ret (Value.ref l))) s) :=
  .of_wp fun prog w A R s h => by
    obtain ⟨hp, g, d, tk, os⟩ := s
    obtain ⟨hl, h⟩ := h
    have f1 := AutoSeq1.idx_int
    wp_walk using wpAny_loadPart' hl
    repeat (first
      | (refine wpAny_ite_false (decide_eq_false (by rw [c0]; exact Bool.false_ne_true)) ?_; wp_walk using wpAny_loadPart' hl)
      | (refine wpAny_ite_true (decide_eq_true c1) ?_; wp_walk using wpAny_loadPart' hl))
    exact ⟨_, rfl, h⟩
theorem tuple_mulE (l : Addr) (items : Array Value) (n : Nat) (dd : Option Addr) (sl : Array (Option Value)) (x : Int) (u : Tok) (c0 : (decide (x < -(2 ^ 63)) || decide (x ≥ 2 ^ 63)) = false) (c1 : (items.isEmpty || x == 1) = false) (c2 : (decide (x ≤ 0) || items.isEmpty) = true) :
    Meets (Builtin.«tuple.__mul__» ⟨[.ref l, .int x u], []⟩) (fun _ R s => s.heap.get? l = some { cls := .type "tuple", dict := dd, data := .seq items n, slots := sl } ∧
      R (.ok (.ret (Value.ref s.heap.objs.size))) { s with heap := s.heap.push { cls := Value.type "tuple", data := Data.seq #[] }, toks := s.toks }) :=
  .of_wp fun prog w A R s h => by
    obtain ⟨hp, g, d, tk, os⟩ := s
    obtain ⟨hl, h⟩ := h
    have f1 := AutoSeq1.idx_int
    wp_walk using wpAny_loadPart' hl
    repeat (first
      | (refine wpAny_ite_false (decide_eq_false (by rw [c0]; exact Bool.false_ne_true)) ?_; wp_walk using wpAny_loadPart' hl)
      | (refine wpAny_ite_false (decide_eq_false (by rw [c1]; exact Bool.false_ne_true)) ?_; wp_walk using wpAny_loadPart' hl)
      | (refine wpAny_ite_true (decide_eq_true c2) ?_; wp_walk using wpAny_loadPart' hl))
    exact ⟨_, rfl, h⟩
end
/-- a tuple times an int: once is the tuple itself -/
theorem op_repT1 {X : Cx} : OpR X (binaryOp .Mult) (fun x y H Q => ∃ l xs, x = .ref l ∧ y = .int 1 ∧ SqT X.K H l xs ∧ Q (.ref l) H) := by
  intro pins s σ H x y v u Q I rx ry h
  obtain ⟨l, xs, rfl, rfl, hT, q⟩ := h
  cases rx
  obtain ⟨t, rfl⟩ := ry
  obtain ⟨its, r, ⟨⟨cls, dd, data, sl⟩, ho, hc, n, hd⟩, hs⟩ := I.tuple hT
  simp only at hc hd
  subst hc hd
  have c0 : (decide ((1 : Int) < -(2 ^ 63)) || decide ((1 : Int) ≥ 2 ^ 63)) = false := by decide
  refine wpAny_binaryOp_repeat_ref (T := "tuple") (U := "int") (by decide) ⟨_, ho, rfl⟩ (fun s' => typeIs_int s' 1 t) noFill_tuple_mul F.fills_int_mul F.slot_int_rmul repeat_tuple F.slot_int_index.lookup
    (call_meets F.slot_int_rmul (typeIs_int s 1 t) F.entry_int_rmul (F.args_int_rmul_2 _ _) (int_rmul_tuple 1 t l its.toArray n dd sl)
      ⟨ho, rfl, ⟨_, ho, rfl⟩, call_meets F.slot_tuple_mul ⟨_, ho, rfl⟩ F.entry_tuple_mul (F.args_tuple_mul_2 _ _) (tuple_mulS l its.toArray n dd sl 1 t c0 (by simp)) ⟨ho, ?_⟩⟩)
  exact ⟨.ref l, H, I, rfl, q⟩
/-- no time or fewer: an empty tuple -/
theorem op_repT0 {X : Cx} : OpR X (binaryOp .Mult) (fun x y H Q => ∃ l k xs, x = .ref l ∧ y = .int k ∧ SqT X.K H l xs ∧ xs ≠ [] ∧ k ≤ 0 ∧ -(2 ^ 20) < k ∧ ∀ p, H p = none → Q (.ref p) (upd H p (.tup []))) := by
  intro pins s σ H x y v u Q I rx ry h
  obtain ⟨l, k, xs, rfl, rfl, hT, hne, h1, h2, q⟩ := h
  cases rx
  obtain ⟨t, rfl⟩ := ry
  obtain ⟨its, r, ⟨⟨cls, dd, data, sl⟩, ho, hc, n, hd⟩, hs⟩ := I.tuple hT
  simp only at hc hd
  subst hc hd
  have hi : its.toArray.isEmpty = false := by
    cases its with
    | nil => exact absurd (List.eq_nil_of_length_eq_zero r.length) hne
    | cons a b => rfl
  have c0 : (decide (k < -(2 ^ 63)) || decide (k ≥ 2 ^ 63)) = false := by
    rw [decide_eq_false (by omega), decide_eq_false (by omega)] <;> rfl
  have c1 : (its.toArray.isEmpty || k == 1) = false := by
    rw [hi, Bool.false_or]
    exact beq_eq_false_iff_ne.mpr (by omega)
  have c2 : (decide (k ≤ 0) || its.toArray.isEmpty) = true := by
    rw [decide_eq_true h1, Bool.true_or]
  refine wpAny_binaryOp_repeat_ref (T := "tuple") (U := "int") (by decide) ⟨_, ho, rfl⟩ (fun s' => typeIs_int s' k t) noFill_tuple_mul F.fills_int_mul F.slot_int_rmul repeat_tuple F.slot_int_index.lookup
    (call_meets F.slot_int_rmul (typeIs_int s k t) F.entry_int_rmul (F.args_int_rmul_2 _ _) (int_rmul_tuple k t l its.toArray n dd sl)
      ⟨ho, rfl, ⟨_, ho, rfl⟩, call_meets F.slot_tuple_mul ⟨_, ho, rfl⟩ F.entry_tuple_mul (F.args_tuple_mul_2 _ _) (tuple_mulE l its.toArray n dd sl k t c0 c1 c2) ⟨ho, ?_⟩⟩)
  refine ⟨.ref s.heap.objs.size, _, I.laid (t' := s.toks) (o := .tup []) (fun b ob q => Heap.get?_push_of_some _ q) (Nat.le_refl _) ?_, rfl, q _ (I.hok.fresh (Nat.le_refl _))⟩
  exact ⟨Nat.zero_le _, [], .nil, IsTup.new _ _⟩
theorem rep_all {K : PySem.W.Frag} {H : Hp} {P : Pr} {ds : List D} {vs : List V} (h : Reps K H ds P vs) : ∀ k : Nat, Reps K H (List.replicate k ds).flatten P (List.replicate k vs).flatten
  | 0 => Reps.nil
  | k + 1 => by rw [List.replicate_succ, List.replicate_succ, List.flatten_cons, List.flatten_cons]; exact h.append (rep_all h k)
noncomputable instance : DecidableEq (List D) := fun _ _ => Classical.propDecidable _
noncomputable instance : DecidableEq D := fun _ _ => Classical.propDecidable _
section
variable {X : Cx}
theorem repS_len (k : Int) (x : Str) : (⟨(List.replicate k.toNat x.cps).foldl (· ++ ·) #[]⟩ : Str).length = x.length * k.toNat := by
  show Array.size _ = _
  have h : ∀ (m : Nat) (a : Array Nat), ((List.replicate m x.cps).foldl (· ++ ·) a).size = a.size + x.cps.size * m := by
    intro m
    induction m with
    | zero => intro a; simp
    | succ m ih => intro a; rw [List.replicate_succ, List.foldl_cons, ih, Array.size_append, Nat.mul_succ]; omega
  rw [h, Array.size_empty, Nat.zero_add]
  rfl
/-- a text times an int -/
theorem op_repS : OpR X (binaryOp .Mult) (fun x y H Q => ∃ i k, x = .str i ∧ y = .int k ∧ -(2 ^ 20) < k ∧ k < 2 ^ 20 ∧ i.length * k.toNat ≤ sizeLine ∧ Q (.str (repS k i)) H) := by
  intro pins s σ H x y v u Q I rx ry h
  obtain ⟨i, k, rfl, rfl, h1, h2, hz, q⟩ := h
  obtain ⟨t, rfl⟩ := rx
  obtain ⟨t', rfl⟩ := ry
  have hs : sizeLine ≤ 2 ^ 40 := by decide
  refine PySem.P.mul_str ?_ (fun c _ => ?_) (fun _ _ => decide_eq_false (by omega)) ?_
  · rw [decide_eq_false (by omega), decide_eq_false (by omega)]; rfl
  · have e : ((i.length * k.toNat : Nat) : Int) = (i.length : Int) * k := by rw [Int.natCast_mul, Int.toNat_of_nonneg (by omega)]
    have := (Int.le_ediv_iff_mul_le (a := (i.length : Int)) (b := 2 ^ 63 - 1) (c := k) (by omega)).mpr (by rw [← e]; omega)
    omega
  · unfold repS at q
    by_cases c1 : k < 1
    · rw [if_pos c1] at q ⊢
      exact ⟨by decide, ⟨.str _, H, I.tok _, ⟨_, rfl⟩, q⟩⟩
    · rw [if_neg c1] at q ⊢
      by_cases c2 : (k == 1 || i.length == 0) = true
      · rw [if_pos c2] at q ⊢
        exact ⟨.str _, H, I, ⟨_, rfl⟩, q⟩
      · rw [if_neg c2] at q ⊢
        exact ⟨by rw [repS_len]; exact hz, ⟨.str _, H, I.tok _, ⟨_, rfl⟩, q⟩⟩
theorem od_mul : OpR X (binaryOp .Mult) (rD X.K mulD) := by
  intro pins s σ H x y v u Q I rx ry ⟨P, dx, dy, dz, hm, r1, r2, e, out⟩
  cases dx <;> cases dy <;> simp only [mulD, R.ok.injEq, reduceCtorEq] at e
  case int.int =>
    split at e
    · rename_i c; cases e
      obtain rfl := r1.int
      obtain rfl := r2.int
      obtain ⟨t, rfl⟩ := rx
      obtain ⟨t', rfl⟩ := ry
      exact mul_int ⟨.int _, H, I.tok _, ⟨_, rfl⟩, out.int⟩ (mulOk_ok c)
    · cases e
  case str.int =>
    split at e
    · rename_i c; cases e
      obtain rfl := r1.str
      obtain rfl := r2.int
      exact op_repS pins s σ H _ _ v u Q I rx ry ⟨_, _, rfl, rfl, by omega, by omega, of_decide_eq_true c.2.2, out.str⟩
    · cases e
  case tup.int =>
    split at e
    · rename_i c; cases e
      obtain ⟨a, vs, rfl, h1, h2⟩ := r1.tup
      obtain rfl := r2.int
      rename_i ds k
      have hne : vs ≠ [] := fun z => by
        have z2 := h2.length
        rw [z] at z2
        have z3 := List.length_eq_zero_iff.mp z2.symm
        rw [z3] at c
        exact absurd c.1 (by decide)
      by_cases c1 : k = 1
      · subst c1
        have e1 : (List.replicate (1 : Int).toNat ds).flatten = ds := by
          show ds ++ [] = ds
          exact List.append_nil _
        rw [e1] at out
        exact op_repT1 pins s σ H _ _ v u Q I rx ry ⟨a, vs, rfl, rfl, SqT.of h1, out.flat (Rep.tup_of h1 h2) rfl⟩
      · by_cases c2 : k ≤ 0
        · have e1 : (List.replicate k.toNat ds).flatten = [] := by
            have : k.toNat = 0 := by omega
            rw [this]; rfl
          rw [e1] at out
          exact op_repT0 pins s σ H _ _ v u Q I rx ry ⟨a, _, vs, rfl, rfl, SqT.of h1, hne, c2, c.2.1, fun p hp => out.newT hm Reps.nil hp⟩
        · exact op_repT pins s σ H _ _ v u Q I rx ry ⟨a, _, vs, rfl, rfl, SqT.of h1, hne, by omega, c.2.2.1, by rw [h2.length]; exact c.2.2.2, fun p hp => out.newT hm (rep_all h2 _) hp⟩
    · cases e
  case lst.int =>
    split at e
    · rename_i c
      have c : _ ∧ _ ∧ _ := c
      cases e
      obtain ⟨a, vs, rfl, h1, h2⟩ := r1.lst
      obtain rfl := r2.int
      exact op_rep pins s σ H _ _ v u Q I rx ry ⟨a, _, vs, rfl, rfl, h1, by omega, by omega, by rw [h2.length]; exact of_decide_eq_true c.2.2, fun p hp => out.newL hm (rep_all h2 _) hp⟩
    · cases e
end

mutual
def toPy : D → PyData
  | .non => .none
  | .bl b => .bool b
  | .int i => .int i
  | .str x => .str x
  | .tup ds => .tuple (toPys ds)
  | .lst ds => .list (toPys ds)
  | .arg ns => .list (ns.map .int)
  | .dik _ _ => .dict []
  | .dit _ _ => .dict []
  | .ftu ds => .tuple (toPys ds)
  | .tab _ _ => .dict []
def toPys : List D → List PyData
  | [] => []
  | d :: ds => toPy d :: toPys ds
end
def dOk (d : D) : Bool := SeqAt.shaped (toPy d)
def eqP (x y : D) : Bool := PyData.eqv (toPy x) (toPy y)
theorem dp_ints {K : PySem.W.Frag} {H : Hp} : ∀ ns : List Int, DpAll K H (ns.map V.int) (ns.map PyData.int)
  | [] => .nil
  | n :: ns => .cons (.int n) (dp_ints ns)
mutual
theorem Rep.dp {K : PySem.W.Frag} {H : Hp} : ∀ (d : D) {P : Pr} {v : V}, (toPy d).canLay0 = true → Rep K H d P v → Dp K H v (toPy d)
  | .non, _, _, _, h => by unfold Rep at h; subst h; exact .non
  | .bl b, _, _, _, h => by unfold Rep at h; subst h; exact .bl b
  | .int i, _, _, _, h => by unfold Rep at h; subst h; exact .int i
  | .str i, _, _, _, h => by unfold Rep at h; subst h; exact .str i
  | .tup ds, P, v, c, h => by
    unfold Rep at h
    obtain ⟨a, vs, rfl, h1, h2⟩ := h
    unfold toPy at c ⊢
    exact .tup (SqT.of h1) (Reps.dp ds (by simpa [PyData.canLay0] using c) h2)
  | .lst ds, P, v, c, h => by
    unfold Rep at h
    obtain ⟨a, vs, rfl, _, h1, h2⟩ := h
    unfold toPy at c ⊢
    exact .lst (SqL.of h1) (Reps.dp ds (by simpa [PyData.canLay0] using c) h2)
  | .arg ns, P, v, c, h => by
    unfold Rep at h
    unfold toPy
    obtain ⟨a, rfl, h⟩ := h
    rcases h with ⟨_, h⟩ | h
    · exact .lst (.inl h) (dp_ints ns)
    · refine .lst (.inr ?_) (dp_ints ns)
      rcases h with h | h
      · rcases h with e | ⟨o, e⟩ <;> cases e
      · exact h
  | .dik _ _, _, _, c, _ => by simp [toPy, PyData.canLay0] at c
  | .dit _ _, _, _, c, _ => by simp [toPy, PyData.canLay0] at c
  | .tab _ _, _, _, c, _ => by simp [toPy, PyData.canLay0] at c
  | .ftu ds, P, v, c, h => by
    unfold Rep at h
    obtain ⟨a, vs, o, rfl, h1, _, h2⟩ := h
    unfold toPy at c ⊢
    exact .tup (SqT.fz h1) (Reps.dp ds (by simpa [PyData.canLay0] using c) h2)
theorem Reps.dp {K : PySem.W.Frag} {H : Hp} : ∀ (ds : List D) {P : Pr} {vs : List V}, PyData.canLayAll0 (toPys ds) = true → Reps K H ds P vs → DpAll K H vs (toPys ds)
  | [], _, _, _, h => by rw [h.nil_iff]; exact .nil
  | d :: ds, P, vs, c, h => by
    obtain ⟨v, ws, rfl, h1, h2⟩ := h.cons_iff
    unfold toPys at c ⊢
    have c := Bool.and_eq_true_iff.mp (show (PyData.canLay0 (toPy d) && PyData.canLayAll0 (toPys ds)) = true by simpa [PyData.canLayAll0] using c)
    exact .cons (Rep.dp d c.1 h1) (Reps.dp ds c.2 h2)
end
theorem RepW.dp {K : PySem.W.Frag} {H : Hp} {d : D} {P : Pr} {v : V} (c : dOk d = true) (h : RepW K H d P v) : Dp K H v (toPy d) := by
  have c := SeqAt.canLay_of_shaped c
  cases d with
  | lst ds =>
    obtain ⟨a, vs, rfl, h1, h2⟩ := h
    unfold toPy at c ⊢
    exact .lst (SqL.of h1) (Reps.dp ds (by simpa [PyData.canLay0] using c) h2)
  | arg ns =>
    obtain ⟨a, rfl, h1⟩ := h
    unfold toPy
    exact .lst h1 (dp_ints ns)
  | dik _ _ => simp [toPy, PyData.canLay0] at c
  | dit _ _ => simp [toPy, PyData.canLay0] at c
  | tab _ _ => simp [toPy, PyData.canLay0] at c
  | non => exact Rep.dp (P := P) _ c h
  | bl _ => exact Rep.dp (P := P) _ c h
  | int _ => exact Rep.dp (P := P) _ c h
  | str _ => exact Rep.dp (P := P) _ c h
  | tup _ => exact Rep.dp (P := P) _ c h
  | ftu _ => exact Rep.dp (P := P) _ c h
def eqD (x y : D) : R D := if (dOk x && dOk y) = true then .ok (.bl (eqP x y)) else .stk
def neD (x y : D) : R D := if (dOk x && dOk y) = true then .ok (.bl (!eqP x y)) else .stk
def ltD : D → D → R D
  | .int i, .int j => .ok (.bl (decide (i < j)))
  | .str x, .str y => .ok (.bl (decide (x.cps.toList < y.cps.toList)))
  | _, _ => .stk
def leD : D → D → R D
  | .int i, .int j => .ok (.bl (decide (i ≤ j)))
  | _, _ => .stk
def gtD : D → D → R D
  | .int i, .int j => .ok (.bl (decide (j < i)))
  | _, _ => .stk
def geD : D → D → R D
  | .int i, .int j => .ok (.bl (decide (j ≤ i)))
  | _, _ => .stk
def isNon : D → Bool
  | .non => true
  | _ => false
def isD : D → D → R D
  | x, .non => .ok (.bl (isNon x))
  | .bl a, .bl b => .ok (.bl (decide (a = b)))
  | _, _ => .stk
def isNotD : D → D → R D
  | x, .non => .ok (.bl (!isNon x))
  | .bl a, .bl b => .ok (.bl (!decide (a = b)))
  | _, _ => .stk
def flatD : D → Bool
  | .non => true
  | .bl _ => true
  | .int _ => true
  | .str _ => true
  | _ => false
/-- in a text of one sign, a list of data, a tuple of flat data -/
def inB : D → D → Option Bool
  | .str a, .str b => if a.length = 1 then some (decide (a.cps.getD 0 0 ∈ b.cps.toList)) else none
  | x, .lst ds => if (dOk x && dOk (.lst ds)) = true then some (ds.any fun z => eqP z x) else none
  | x, .tup ds => if (flatD x && ds.all flatD) = true then some (ds.any fun z => eqP z x) else none
  | _, _ => none
def inD (x y : D) : R D := match inB x y with | some b => .ok (.bl b) | none => .stk
section
variable {K : PySem.W.Frag} {H : Hp} {P : Pr}
theorem RepW.isNon {d : D} {v : V} (h : RepW K H d P v) : decide (v = .non) = isNon d := by
  cases d with
  | non => rw [h.non]; rfl
  | bl _ => rw [h.bl]; rfl
  | int _ => rw [h.int]; rfl
  | str _ => rw [h.str]; rfl
  | tup _ => obtain ⟨a, vs, rfl, _⟩ := h.tup; rfl
  | lst _ => obtain ⟨a, vs, rfl, _⟩ := h.lst; rfl
  | arg _ => obtain ⟨a, rfl, _⟩ := h.arg; rfl
  | ftu _ => obtain ⟨a, vs, o, rfl, _⟩ := h.ftu; rfl
  | dik _ _ => obtain ⟨a, vs, rfl, _⟩ := h; rfl
  | dit _ _ => obtain ⟨a, vs, rfl, _⟩ := h; rfl
  | tab _ _ => obtain ⟨a, rfl, _⟩ := h; rfl
theorem flat_rep {d : D} {v : V} (f : flatD d = true) (h : Rep K H d P v) : flatV v = true := by
  cases d <;> unfold Rep at h <;> first | (subst h; rfl) | (simp [flatD] at f)
theorem flat_eq {d e : D} {v w : V} (f : flatD d = true) (g : flatD e = true) (h : Rep K H d P v) (h2 : Rep K H e P w) : eqV v w = eqP d e := by
  cases d <;> unfold Rep at h <;> first | (simp [flatD] at f; done) | skip
  all_goals (cases e <;> unfold Rep at h2 <;> first | (simp [flatD] at g; done) | skip)
  all_goals (subst h; subst h2; simp [eqV, eqP, toPy, PyData.eqv])
theorem flats_rep : ∀ {ds : List D} {vs : List V}, ds.all flatD = true → Reps K H ds P vs → vs.all flatV = true
  | [], _, _, h => by rw [h.nil_iff]; rfl
  | d :: ds, vs, f, h => by
    obtain ⟨v, ws, rfl, h1, h2⟩ := h.cons_iff
    rw [List.all_cons, Bool.and_eq_true] at f ⊢
    exact ⟨flat_rep f.1 h1, flats_rep f.2 h2⟩
theorem inV_rep {x : D} {v : V} (g : flatD x = true) (hx : Rep K H x P v) : ∀ {ds : List D} {vs : List V}, ds.all flatD = true → Reps K H ds P vs → inV v vs = ds.any fun z => eqP z x
  | [], _, _, h => by rw [h.nil_iff]; rfl
  | d :: ds, vs, f, h => by
    obtain ⟨w, ws, rfl, h1, h2⟩ := h.cons_iff
    rw [List.all_cons, Bool.and_eq_true] at f
    have ih := inV_rep g hx f.2 h2
    unfold inV at ih ⊢
    rw [List.any_cons, List.any_cons, ih, flat_eq f.1 g h1 hx]
theorem flatW {d : D} {v : V} (f : flatD d = true) (h : RepW K H d P v) : Rep K H d P v := by
  cases d <;> first | exact h | (simp [flatD] at f)
theorem dp_any {x : D} : ∀ ds : List D, ((toPys ds).any fun z => PyData.eqv z (toPy x)) = ds.any fun z => eqP z x
  | [] => rfl
  | d :: ds => by unfold toPys; rw [List.any_cons, List.any_cons, dp_any ds]; rfl
end
section
variable {X : Cx}
theorem od_eq (hu : X.A.units + 64 < cLine) : OpR X (compareOp .Eq) (rD X.K eqD) := by
  intro pins s σ H x y v u Q I rx ry ⟨P, dx, dy, dz, hm, r1, r2, e, out⟩
  unfold eqD at e
  split at e
  · rename_i c; cases e
    rw [Bool.and_eq_true] at c
    exact op_eqD hu pins s σ H x y v u Q I rx ry ⟨_, _, r1.dp c.1, r2.dp c.2, c.1, c.2, out.bl⟩
  · cases e
theorem od_ne (hu : X.A.units + 64 < cLine) : OpR X (compareOp .NotEq) (rD X.K neD) := by
  intro pins s σ H x y v u Q I rx ry ⟨P, dx, dy, dz, hm, r1, r2, e, out⟩
  unfold neD at e
  split at e
  · rename_i c; cases e
    rw [Bool.and_eq_true] at c
    exact op_neD hu pins s σ H x y v u Q I rx ry ⟨_, _, r1.dp c.1, r2.dp c.2, c.1, c.2, out.bl⟩
  · cases e
theorem od_cmp {op : CmpOp} {f : D → D → R D} {p : Int → Int → Bool} (ho : OpR X (compareOp op) (rI0 fun i j => .bl (p i j))) (hf : ∀ x y z, f x y = .ok z → ∃ i j, x = .int i ∧ y = .int j ∧ z = .bl (p i j)) : OpR X (compareOp op) (rD X.K f) := by
  intro pins s σ H x y v u Q I rx ry ⟨P, dx, dy, dz, hm, r1, r2, e, out⟩
  obtain ⟨i, j, rfl, rfl, rfl⟩ := hf _ _ _ e
  obtain rfl := r1.int
  obtain rfl := r2.int
  exact ho pins s σ H _ _ v u Q I rx ry ⟨_, _, rfl, rfl, out.bl⟩
theorem od_le : OpR X (compareOp .LtE) (rD X.K leD) := od_cmp op_le fun x y z e => by
  cases x <;> cases y <;> simp only [leD, R.ok.injEq, reduceCtorEq] at e
  exact ⟨_, _, rfl, rfl, e.symm⟩
theorem od_gt : OpR X (compareOp .Gt) (rD X.K gtD) := od_cmp op_gt fun x y z e => by
  cases x <;> cases y <;> simp only [gtD, R.ok.injEq, reduceCtorEq] at e
  exact ⟨_, _, rfl, rfl, e.symm⟩
theorem od_ge : OpR X (compareOp .GtE) (rD X.K geD) := od_cmp op_ge fun x y z e => by
  cases x <;> cases y <;> simp only [geD, R.ok.injEq, reduceCtorEq] at e
  exact ⟨_, _, rfl, rfl, e.symm⟩
theorem od_lt : OpR X (compareOp .Lt) (rD X.K ltD) := by
  intro pins s σ H x y v u Q I rx ry ⟨P, dx, dy, dz, hm, r1, r2, e, out⟩
  cases dx <;> cases dy <;> simp only [ltD, R.ok.injEq, reduceCtorEq] at e
  · subst e
    obtain rfl := r1.int
    obtain rfl := r2.int
    exact op_lt pins s σ H _ _ v u Q I rx ry ⟨_, _, rfl, rfl, out.bl⟩
  · subst e
    obtain rfl := r1.str
    obtain rfl := r2.str
    exact op_lt_str pins s σ H _ _ v u Q I rx ry ⟨_, _, rfl, rfl, out.bl⟩
theorem od_is : OpR X (compareOp .Is) (rD X.K isD) := by
  intro pins s σ H x y v u Q I rx ry ⟨P, dx, dy, dz, hm, r1, r2, e, out⟩
  unfold isD at e
  split at e
  · cases e
    obtain rfl := r2.non
    exact op_isN pins s σ H _ _ v u Q I rx ry ⟨rfl, by rw [r1.isNon]; exact out.bl⟩
  · cases e
    obtain rfl := r1.bl
    obtain rfl := r2.bl
    exact op_is_bl pins s σ H _ _ v u Q I rx ry ⟨_, _, rfl, rfl, out.bl⟩
  · cases e
theorem od_isnot : OpR X (compareOp .IsNot) (rD X.K isNotD) := by
  intro pins s σ H x y v u Q I rx ry ⟨P, dx, dy, dz, hm, r1, r2, e, out⟩
  unfold isNotD at e
  split at e
  · cases e
    obtain rfl := r2.non
    exact op_notN pins s σ H _ _ v u Q I rx ry ⟨rfl, by rw [r1.isNon]; exact out.bl⟩
  · cases e
    obtain rfl := r1.bl
    obtain rfl := r2.bl
    exact op_isnot_bl pins s σ H _ _ v u Q I rx ry ⟨_, _, rfl, rfl, out.bl⟩
  · cases e
theorem one_sign {a : Str} (h : a.length = 1) : a = ⟨#[a.cps.getD 0 0]⟩ := by
  refine Str.ext' ?_
  have h : a.cps.size = 1 := h
  apply Array.ext
  · simpa using h
  · intro i h1 h2
    have : i = 0 := by simp at h2; omega
    subst this
    simp [Array.getD, h]
theorem od_in (hu : X.A.units + 65 < cLine) : OpR X (compareOp .In) (rD X.K inD) := by
  intro pins s σ H x y v u Q I rx ry ⟨P, dx, dy, dz, hm, r1, r2, e, out⟩
  unfold inD at e
  split at e
  · rename_i b eb
    cases e
    unfold inB at eb
    split at eb
    · split at eb
      · rename_i c; cases eb
        obtain rfl := r1.str
        obtain rfl := r2.str
        refine op_in_sign pins s σ H _ _ v u Q I rx ry ⟨_, _, congrArg V.str (one_sign c), rfl, out.bl⟩
      · cases eb
    · split at eb
      · rename_i c; cases eb
        rw [Bool.and_eq_true] at c
        refine op_inD hu pins s σ H _ _ v u Q I rx ry ⟨_, toPys _, r1.dp c.1, by have q := r2.dp c.2; unfold toPy at q; exact q, c.1, by have q := c.2; unfold dOk toPy at q; exact q, ?_⟩
        rw [dp_any]
        exact out.bl
      · cases eb
    · split at eb
      · rename_i c; cases eb
        rw [Bool.and_eq_true] at c
        obtain ⟨a, vs, rfl, h1, h2⟩ := r2.tup
        refine op_in_seq pins s σ H _ _ v u Q I rx ry ⟨a, vs, rfl, .inr (SqT.of h1), flat_rep c.1 (flatW c.1 r1), flats_rep c.2 h2, ?_⟩
        rw [if_neg (by decide), inV_rep c.1 (flatW c.1 r1) c.2 h2]
        exact out.bl
      · cases eb
    · cases eb
  · cases e
end
end Y

set_option Elab.async false
set_option linter.all false
set_option maxRecDepth 100000
namespace Y
open PySem PySem.Spec PyProof.Rows L2

section
variable {X : Cx} {P0 : Pr} {O W : List Nat} {E : EK} {a b c : Expr} {ma mb mc : EM} {pos : Pos}
theorem ce_bin {op : Operator} {f : D → D → R D} (ho : OpR X (binaryOp op) (rD X.K f)) (ha : CEx X P0 O W E a ma) (hb : CEx X P0 O W E b mb) : CEx X P0 O W E (.BinOp a op b pos) (cOp f ma mb) := PE.imp (pe_op ho ha hb) tM_op
theorem ce_cmp {op : CmpOp} {f : D → D → R D} (ho : OpR X (compareOp op) (rD X.K f)) (ha : CEx X P0 O W E a ma) (hb : CEx X P0 O W E b mb) (hm : behindInMarks op b = false := by rfl) : CEx X P0 O W E (.Compare a [op] [b] pos) (cOp f ma mb) := PE.imp (pe_cmpR ho ha hb hm) tM_op
/-- a handle's truth -/
def truD : D → R Bool
  | .non => .ok false
  | .bl b => .ok b
  | .int i => .ok (i != 0)
  | .str x => if szOk x.length = true then .ok (x.length != 0) else .stk
  | .tup ds => .ok (!ds.isEmpty)
  | .lst ds => .ok (!ds.isEmpty)
  | .arg ns => .ok (!ns.isEmpty)
  | .dik _ _ => .stk
  | .dit _ _ => .stk
  | .ftu ds => .ok (!ds.isEmpty)
  | .tab _ _ => .stk
theorem truD_ok {K : PySem.W.Frag} {H : Hp} {P : Pr} {d : D} {v : V} {k : Bool} (h : truD d = .ok k) (r : RepW K H d P v) : TruV K v H k := by
  cases d <;> simp only [truD, R.ok.injEq, reduceCtorEq] at h
  · rw [r.non]; exact h.symm
  · rw [r.bl]; exact h.symm
  · rw [r.int]; exact h.symm
  · split at h
    · rename_i c; cases h
      rw [r.str]
      exact ⟨of_decide_eq_true c, by
        show (_ != _) = (_ != _)
        simp only [bne, Nat.beq_eq_true_eq]
        congr 1
        exact Bool.eq_iff_iff.mpr (by simp)⟩
    · cases h
  · obtain ⟨a, vs, rfl, h1, h2⟩ := r.tup
    refine .inr (.inl ⟨vs, SqT.of h1, ?_⟩)
    rw [← h]
    rename_i ds
    have := h2.length
    cases vs <;> cases ds <;> simp at this ⊢
  · obtain ⟨a, vs, rfl, h1, h2⟩ := r.lst
    refine .inl ⟨vs, SqL.of h1, ?_⟩
    rw [← h]
    rename_i ds
    have := h2.length
    cases vs <;> cases ds <;> simp at this ⊢
  · obtain ⟨a, rfl, h1⟩ := r.arg
    refine .inl ⟨_, h1, ?_⟩
    rw [← h]
    rename_i ns
    cases ns <;> rfl
  · obtain ⟨a, vs, o, rfl, h1, hdn, h2⟩ := r.ftu
    clear hdn
    refine .inr (.inl ⟨vs, SqT.fz h1, ?_⟩)
    rw [← h]
    rename_i ds
    have := h2.length
    cases vs <;> cases ds <;> simp at this ⊢
abbrev CT (X : Cx) (P0 : Pr) (O W : List Nat) (E : EK) (e : Expr) (m : BM) : Prop := PT X e (tMt X.K P0 O W E m)
def cTru (m : EM) : BM := fun ρ => do
  let (h, ρ1) ← m ρ
  let d ← (h.d ρ1).nox
  let b ← (truD d).nox
  pure (b, ρ1)
theorem ct_val (ha : CEx X P0 O W E a ma) (he : ∀ whole, isTrue a X.env whole = (do let v ← whole; standAt a.pos; holding [v] (truthy v)) := by intro _; rfl) : CT X P0 O W E a (cTru ma) := PT.imp (pt_truth ha he) fun σ H Q ⟨ρ, S, h⟩ =>
  ⟨ρ, S, h.of_bind.mono fun ⟨h1, ρ1⟩ q v H1 S1 k1 r1 => by
    obtain ⟨d, e1, q⟩ := q.of_nox
    obtain ⟨k, e2, q⟩ := q.of_nox
    exact ⟨k, truD_ok e2 (r1.d S1 e1), q H1 S1 k1⟩⟩
/-- a comparison as a test -/
def cBl (m : EM) : BM := fun ρ => do
  let (h, ρ1) ← m ρ
  let d ← h.v.nox
  match d with
  | .bl k => pure (k, ρ1)
  | _ => .stk
theorem tM_bl {m : EM} (σ : St) (H : Hp) (Q : Bool → Hp → Prop) (h : tMt X.K P0 O W E (cBl m) σ H Q) : tTest (tM X.K P0 O W E m) σ H Q := by
  obtain ⟨ρ, S, h⟩ := h
  refine ⟨ρ, S, h.of_bind.mono fun ⟨h1, ρ1⟩ q v H1 S1 k1 r1 => ?_⟩
  obtain ⟨d, e1, q⟩ := q.of_nox
  have r := r1.v e1
  cases d <;> first | (exact q.elim) | skip
  unfold Rep at r
  exact ⟨_, r, q H1 S1 k1⟩
theorem tTest_imp {t t' : TE} (i : ∀ σ H Q, t' σ H Q → t σ H Q) {σ : St} {H : Hp} {Q : Bool → Hp → Prop} (h : tTest t' σ H Q) : tTest t σ H Q := i σ H _ h
theorem ct_cmp {op : CmpOp} {f : D → D → R D} (ho : OpR X (compareOp op) (rD X.K f)) (ha : CEx X P0 O W E a ma) (hb : CEx X P0 O W E b mb) (hm : behindInMarks op b = false := by rfl) : CT X P0 O W E (.Compare a [op] [b] pos) (cBl (cOp f ma mb)) := PT.imp (pt_cmpR ho ha hb hm) fun σ H Q h => tTest_imp tM_op (tM_bl σ H Q h)
def cNotT (m : BM) : BM := fun ρ => do
  let (b, ρ1) ← m ρ
  pure (!b, ρ1)
theorem ct_not {m : BM} (h : CT X P0 O W E a m) : CT X P0 O W E (.UnaryOp .Not a pos) (cNotT m) := PT.imp (pt_not h) fun σ H Q ⟨ρ, S, h⟩ => ⟨ρ, S, h.of_bind.mono fun ⟨b, ρ1⟩ q => q⟩
abbrev CW (X : Cx) (P0 : Pr) (O W : List Nat) (E : EK) (e : Expr) (m : BM) : Prop := PW X e (tMt X.K P0 O W E m)
def cAndT (a b : BM) : BM := fun ρ => do
  let (k, ρ1) ← a ρ
  if k = true then b ρ1 else pure (false, ρ1)
def cOrT (a b : BM) : BM := fun ρ => do
  let (k, ρ1) ← a ρ
  if k = true then pure (true, ρ1) else b ρ1
theorem cw_and1 {m : BM} (h : CT X P0 O W E a m) : CW X P0 O W E (.BoolOp .And [a] pos) m := pw_and1 h
theorem cw_or1 {m : BM} (h : CT X P0 O W E a m) : CW X P0 O W E (.BoolOp .Or [a] pos) m := pw_or1 h
theorem cw_and {rest : List Expr} {m n : BM} (h : CT X P0 O W E a m) (h2 : CW X P0 O W E (.BoolOp .And (b :: rest) pos) n) : CW X P0 O W E (.BoolOp .And (a :: b :: rest) pos) (cAndT m n) := PW.imp (pw_and h h2) fun σ H Q ⟨ρ, S, h⟩ =>
  ⟨ρ, S, h.of_bind.mono fun ⟨k, ρ1⟩ q H1 S1 k1 => by
    cases k with
    | true => exact ⟨ρ1, S1, (q.keep k1).mono fun ⟨k2, ρ2⟩ q2 H2 S2 k3 => q2 H2 S2 (k1.trans k3)⟩
    | false => exact q H1 S1 k1⟩
theorem cw_or {rest : List Expr} {m n : BM} (h : CT X P0 O W E a m) (h2 : CW X P0 O W E (.BoolOp .Or (b :: rest) pos) n) : CW X P0 O W E (.BoolOp .Or (a :: b :: rest) pos) (cOrT m n) := PW.imp (pw_or h h2) fun σ H Q ⟨ρ, S, h⟩ =>
  ⟨ρ, S, h.of_bind.mono fun ⟨k, ρ1⟩ q H1 S1 k1 => by
    cases k with
    | false => exact ⟨ρ1, S1, (q.keep k1).mono fun ⟨k2, ρ2⟩ q2 H2 S2 k3 => q2 H2 S2 (k1.trans k3)⟩
    | true => exact q H1 S1 k1⟩
theorem ct_w {m : BM} (h : CW X P0 O W E a m) : CT X P0 O W E a m := h.pt
theorem HdR.then {K : PySem.W.Frag} {ρ : Env} {σ : St} {H H1 H2 : Hp} {hd : Hd} {v : V} (k : Keep W σ H H1) (r : HdR K P0 O H1 σ H2 hd v) : HdR K P0 O H σ H2 hd v := r.back k.some
def cAnd (a b : EM) : EM := fun ρ => do
  let (h, ρ1) ← a ρ
  let d ← (h.d ρ1).nox
  let k ← (truD d).nox
  if k = true then b ρ1 else pure (h, ρ1)
def cNot (m : EM) : EM := fun ρ => do
  let (h, ρ1) ← m ρ
  let d ← (h.d ρ1).nox
  let k ← (truD d).nox
  pure (.fr (.bl (!k)), ρ1)
theorem ce_one {op : BoolOp} (h : CEx X P0 O W E a ma) : CEx X P0 O W E (.BoolOp op [a] pos) ma := pe_one h
theorem ce_and {rest : List Expr} (h : CEx X P0 O W E a ma) (h2 : CEx X P0 O W E (.BoolOp .And (b :: rest) pos) mb) : CEx X P0 O W E (.BoolOp .And (a :: b :: rest) pos) (cAnd ma mb) := PE.imp (pe_andT h h2) fun σ H Q ⟨ρ, S, h⟩ =>
  ⟨ρ, S, h.of_bind.mono fun ⟨h1, ρ1⟩ q v H1 S1 k1 r1 => by
    obtain ⟨d, e1, q⟩ := q.of_nox
    obtain ⟨k, e2, q⟩ := q.of_nox
    refine ⟨k, truD_ok e2 (r1.d S1 e1), ?_⟩
    cases k with
    | true => exact ⟨ρ1, S1, (q.keep k1).mono fun ⟨h2, ρ2⟩ q2 w H2 S2 k2 r2 => q2 w H2 S2 (k1.trans k2) (r2.back k1.some)⟩
    | false => exact q v H1 S1 k1 r1⟩
theorem ce_not (h : CEx X P0 O W E a ma) : CEx X P0 O W E (.UnaryOp .Not a pos) (cNot ma) := PE.imp (pe_notT h) fun σ H Q ⟨ρ, S, h⟩ =>
  ⟨ρ, S, h.of_bind.mono fun ⟨h1, ρ1⟩ q v H1 S1 k1 r1 => by
    obtain ⟨d, e1, q⟩ := q.of_nox
    obtain ⟨k, e2, q⟩ := q.of_nox
    exact ⟨k, truD_ok e2 (r1.d S1 e1), (out_of S1 k1 q).bl⟩⟩
def cChain2 (g : D → D → R D) (c : EM) (h2 : Hd) : EM := fun ρ2 => do
  let (h3, ρ3) ← c ρ2
  let y ← (h2.d ρ3).nox
  let w ← (h3.d ρ3).nox
  let z ← (g y w).nox
  pure (.fr z, ρ3)
def cChain (f g : D → D → R D) (a b c : EM) : EM := fun ρ => do
  let (h1, ρ1) ← a ρ
  let (h2, ρ2) ← b ρ1
  let x ← (h1.d ρ2).nox
  let y ← (h2.d ρ2).nox
  let z ← (f x y).nox
  match z with
  | .bl k => if k = true then cChain2 g c h2 ρ2 else .ok (.fr (.bl false), ρ2)
  | _ => .stk
theorem tM_chain {f g : D → D → R D} (σ : St) (H : Hp) (Q : VK) (h : tM X.K P0 O W E (cChain f g ma mb mc) σ H Q) : tChain (rD X.K f) (rD X.K g) (tM X.K P0 O W E ma) (tM X.K P0 O W E mb) (tM X.K P0 O W E mc) σ H Q := by
  obtain ⟨ρ, S, h⟩ := h
  refine ⟨ρ, S, h.of_bind.mono fun ⟨h1, ρ1⟩ q x H1 S1 k1 r1 => ⟨ρ1, S1, (q.keep k1).of_bind.mono fun ⟨h2, ρ2⟩ q2 y H2 S2 k2 r2 => ?_⟩⟩
  obtain ⟨dx, e1, q3⟩ := q2.of_nox
  obtain ⟨dy, e2, q4⟩ := q3.of_nox
  obtain ⟨dz, e3, q5⟩ := q4.of_nox
  refine ⟨FA P0 O σ, dx, dy, dz, S2.dom, (r1.keep S1 k2).d S2 e1, r2.d S2 e2, e3, fun v H3 sm r fr => ?_⟩
  cases dz <;> first | (exact q5.elim) | skip
  rename_i bb
  unfold Rep at r
  refine ⟨bb, r, ?_⟩
  have k3 : Keep W σ H2 H3 := Keep.same sm
  have S3 := S2.same sm
  cases bb with
  | false =>
    refine (if_neg Bool.false_ne_true).mpr ?_
    exact (q5 : ∀ v H', _) (.bl false) H3 S3 ((k1.trans k2).trans k3) ⟨by unfold Rep; rfl, fun z => by cases z⟩
  | true =>
    have q5 : Res E W σ H1 (cChain2 g mc h2 ρ2) _ := q5
    unfold cChain2 at q5
    refine (if_pos rfl).mpr ⟨ρ2, S3, (q5.keep (k2.trans k3)).of_bind.mono fun ⟨h3, ρ3⟩ q6 w H4 S4 k4 r4 => ?_⟩
    obtain ⟨dy2, e5, q7⟩ := q6.of_nox
    obtain ⟨dw, e6, q8⟩ := q7.of_nox
    obtain ⟨du, e7, q9⟩ := q8.of_nox
    exact ⟨FA P0 O σ, dy2, dw, du, S4.dom, ((r2.keep S2 k3).keep S3 k4).d S4 e5, r4.d S4 e6, e7, out_of S4 (((k1.trans k2).trans k3).trans k4) q9⟩
theorem ce_chain {op op' : CmpOp} {f g : D → D → R D} (ho : OpR X (compareOp op) (rD X.K f)) (ho' : OpR X (compareOp op') (rD X.K g)) (ha : CEx X P0 O W E a ma) (hb : CEx X P0 O W E b mb) (hc : CEx X P0 O W E c mc)
    (hm : lastMarks [op, op'] [b, c] = false := by with_unfolding_all rfl) : CEx X P0 O W E (.Compare a [op, op'] [b, c] pos) (cChain f g ma mb mc) := PE.imp (pe_chain ho ho' ha hb hc hm) tM_chain
theorem ct_chain {op op' : CmpOp} {f g : D → D → R D} (ho : OpR X (compareOp op) (rD X.K f)) (ho' : OpR X (compareOp op') (rD X.K g)) (ha : CEx X P0 O W E a ma) (hb : CEx X P0 O W E b mb) (hc : CEx X P0 O W E c mc)
    (hm : lastMarks [op, op'] [b, c] = false := by with_unfolding_all rfl) : CT X P0 O W E (.Compare a [op, op'] [b, c] pos) (cBl (cChain f g ma mb mc)) := PT.imp (pt_chain ho ho' ha hb hc hm) fun σ H Q h => tTest_imp tM_chain (tM_bl σ H Q h)
def cNeg (m : EM) : EM := fun ρ => do
  let (h, ρ1) ← m ρ
  let d ← h.v.nox
  match d with
  | .int i => pure (.fr (.int (-i)), ρ1)
  | _ => .stk
theorem ce_neg (h : CEx X P0 O W E a ma) : CEx X P0 O W E (.UnaryOp .USub a pos) (cNeg ma) := PE.imp (pe_un un_neg h) fun σ H Q ⟨ρ, S, h⟩ =>
  ⟨ρ, S, h.of_bind.mono fun ⟨h1, ρ1⟩ q v H1 S1 k1 r1 => by
    obtain ⟨d, e1, q⟩ := q.of_nox
    have r := r1.v e1
    cases d <;> first | (exact q.elim) | skip
    unfold Rep at r
    exact ⟨_, r, (out_of S1 k1 q).int⟩⟩
end
end Y

set_option Elab.async false
set_option linter.all false
set_option maxRecDepth 100000
namespace Y
open PySem PySem.Spec PyProof.Rows L2

def cNil : AM := fun ρ => .ok ([], ρ)
def cCons (a : EM) (as : AM) : AM := fun ρ => do
  let (h, ρ1) ← a ρ
  let (hs, ρ2) ← as ρ1
  pure (h :: hs, ρ2)
def vsOf : List Hd → R (List D)
  | [] => .ok []
  | h :: hs => do
    let d ← h.v.nox
    let ds ← vsOf hs
    pure (d :: ds)
def dsOf : List Hd → Env → R (List D)
  | [], _ => .ok []
  | h :: hs, ρ => do
    let d ← (h.d ρ).nox
    let ds ← dsOf hs ρ
    pure (d :: ds)
def RepWs (K : PySem.W.Frag) (H : Hp) : List D → Pr → List V → Prop
  | [], _, vs => vs = []
  | d :: ds, P, vs => ∃ v ws, vs = v :: ws ∧ RepW K H d P v ∧ RepWs K H ds P ws
theorem R.ok_of {α β : Type} {r : R α} {f : α → R β} {b : β} (h : (r >>= f) = .ok b) : ∃ a, r = .ok a ∧ f a = .ok b := by
  cases r with
  | ok a => exact ⟨a, rfl, h⟩
  | er c ds => cases h
  | stk => cases h
theorem R.nox_of {α : Type} {r : R α} {a : α} (h : r.nox = .ok a) : r = .ok a := by cases r <;> first | exact h | cases h
theorem RepWs.get1 {K : PySem.W.Frag} {H : Hp} {d : D} {P : Pr} {vs : List V} (h : RepWs K H [d] P vs) : ∃ v, vs = [v] ∧ RepW K H d P v := by
  obtain ⟨v, ws, rfl, h1, h2⟩ := h
  have h2 : ws = [] := h2
  subst h2
  exact ⟨v, rfl, h1⟩
theorem RepWs.get2 {K : PySem.W.Frag} {H : Hp} {d e : D} {P : Pr} {vs : List V} (h : RepWs K H [d, e] P vs) : ∃ v w, vs = [v, w] ∧ RepW K H d P v ∧ RepW K H e P w := by
  obtain ⟨v, ws, rfl, h1, h2⟩ := h
  obtain ⟨w, rfl, h3⟩ := RepWs.get1 h2
  exact ⟨v, w, rfl, h1, h3⟩
section
variable {K : PySem.W.Frag} {P0 : Pr} {O W : List Nat} {ρ : Env} {σ : St} {Hs H : Hp}
theorem HdRs.vs : ∀ {hs : List Hd} {vs : List V} {ds : List D}, HdRs K P0 O Hs σ H hs vs → vsOf hs = .ok ds → Reps K H ds (FA P0 O σ) vs
  | [], _, _, r, e => by cases e; have r : _ = [] := r; subst r; exact Reps.nil
  | h :: hs, _, _, ⟨v, ws, e, r1, r2⟩, q => by
    obtain ⟨d, e1, q⟩ := R.ok_of q
    obtain ⟨ds, e2, q⟩ := R.ok_of q
    cases q
    subst e
    exact Reps.cons (r1.v (R.nox_of e1)) (HdRs.vs r2 e2)
theorem HdRs.ds (S : Sim K P0 O W ρ σ H) : ∀ {hs : List Hd} {vs : List V} {ds : List D}, HdRs K P0 O Hs σ H hs vs → dsOf hs ρ = .ok ds → RepWs K H ds (FA P0 O σ) vs
  | [], _, _, r, e => by cases e; exact r
  | h :: hs, _, _, ⟨v, ws, e, r1, r2⟩, q => by
    obtain ⟨d, e1, q⟩ := R.ok_of q
    obtain ⟨ds, e2, q⟩ := R.ok_of q
    cases q
    subst e
    exact ⟨v, ws, rfl, r1.d S (R.nox_of e1), HdRs.ds S r2 e2⟩
end
section
variable {X : Cx} {P0 : Pr} {O W : List Nat} {E : EK} {a b c e : Expr} {es : List Expr} {ma mb mc : EM} {ms : AM} {pos : Pos}
abbrev CA (X : Cx) (P0 : Pr) (O W : List Nat) (E : EK) (es : List Expr) (m : AM) : Prop := PA X es (tMs X.K P0 O W E m)
theorem ca_nil : CA X P0 O W E [] cNil := PA.imp pa_nil fun σ H Q ⟨ρ, S, h⟩ => h [] H S .refl rfl
theorem ca_cons (h : CEx X P0 O W E e ma) (hs : CA X P0 O W E es ms) (hst : starEach (e :: es) X.env = (false, eval e X.env) :: starEach es X.env := by rfl) : CA X P0 O W E (e :: es) (cCons ma ms) := PA.imp (pa_cons h hs hst) fun σ H Q ⟨ρ, S, h⟩ =>
  ⟨ρ, S, h.of_bind.mono fun ⟨h1, ρ1⟩ q v H1 S1 k1 r1 => ⟨ρ1, S1, (q.keep k1).of_bind.mono fun ⟨hs, ρ2⟩ q2 vs H2 S2 k2 r2 => q2 _ H2 S2 (k1.trans k2) ⟨v, vs, rfl, r1.keep S1 k2, HdRs.back k1.some r2⟩⟩⟩
def cTup (m : AM) : EM := fun ρ => do
  let (hs, ρ1) ← m ρ
  let ds ← (vsOf hs).nox
  if szOk ds.length = true then pure (.fr (.tup ds), ρ1) else .stk
def cLst (m : AM) : EM := fun ρ => do
  let (hs, ρ1) ← m ρ
  let ds ← (vsOf hs).nox
  if szOk ds.length = true then pure (.fr (.lst ds), ρ1) else .stk
theorem ce_tup {x1} (h : CA X P0 O W E es ms) : CEx X P0 O W E (.Tuple es x1 pos) (cTup ms) := PE.imp (pe_tup h) fun σ H Q ⟨ρ, S, h⟩ =>
  ⟨ρ, S, h.of_bind.mono fun ⟨hs, ρ1⟩ q vs H1 S1 k1 r1 => by
    obtain ⟨ds, e1, q⟩ := q.of_nox
    have rr := HdRs.vs r1 e1
    by_cases c : szOk ds.length = true
    · rw [if_pos c] at q
      exact ⟨by rw [rr.length]; exact of_decide_eq_true c, fun p hp => (out_of S1 k1 q).newT S1.dom rr hp⟩
    · rw [if_neg c] at q
      exact q.elim⟩
theorem ce_lst (h : CA X P0 O W E es ms) : CEx X P0 O W E (.List es pos) (cLst ms) := PE.imp (pe_lst h) fun σ H Q ⟨ρ, S, h⟩ =>
  ⟨ρ, S, h.of_bind.mono fun ⟨hs, ρ1⟩ q vs H1 S1 k1 r1 => by
    obtain ⟨ds, e1, q⟩ := q.of_nox
    have rr := HdRs.vs r1 e1
    by_cases c : szOk ds.length = true
    · rw [if_pos c] at q
      exact ⟨by rw [rr.length]; exact of_decide_eq_true c, fun p hp => (out_of S1 k1 q).newL S1.dom rr hp⟩
    · rw [if_neg c] at q
      exact q.elim⟩

def cCall (f : List D → R D) (m : AM) : EM := fun ρ => do
  let (hs, ρ1) ← m ρ
  let ds ← (dsOf hs ρ1).nox
  let z ← (f ds).nox
  pure (.fr z, ρ1)
def rDs (K : PySem.W.Frag) (f : List D → R D) : List V → Hp → VK → Prop := fun xs H Q => ∃ (P : Pr) (ds : List D) (dz : D), (∀ b, P b → isMut (H b)) ∧ RepWs K H ds P xs ∧ f ds = .ok dz ∧ Out K P H dz Q
theorem tM_call {f : List D → R D} (σ : St) (H : Hp) (Q : VK) (h : tM X.K P0 O W E (cCall f ms) σ H Q) : tCB (rDs X.K f) (tMs X.K P0 O W E ms) σ H Q := by
  obtain ⟨ρ, S, h⟩ := h
  refine ⟨ρ, S, h.of_bind.mono fun ⟨hs, ρ1⟩ q vs H1 S1 k1 r1 => ?_⟩
  obtain ⟨ds, e1, q⟩ := q.of_nox
  obtain ⟨z, e2, q⟩ := q.of_nox
  exact ⟨FA P0 O σ, ds, z, S1.dom, HdRs.ds S1 r1 e1, e2, out_of S1 k1 q⟩
theorem ce_callB {f : List D → R D} {id : String} {x : Str} {p : Pos} (hc : CallR X (.builtin id) (rDs X.K f)) (hm : X.mg x = none) (hv : bootBuiltins x = some (.builtin id)) (ha : CA X P0 O W E (e :: es) ms) (hg : Gl X x := by rfl) (hn : x ≠ "__name__" := by decide) (hdb : (x == ("__debug__" : Str)) = false := by decide)
    (he : starEach (e :: es) X.env = (false, eval e X.env) :: starEach es X.env := by rfl) (hpl : (backTo pos (starEach es X.env)).any (·.1) = false := by rfl) : CEx X P0 O W E (.Call (.Name x p) (e :: es) [] pos) (cCall f ms) := PE.imp (pe_callB hc hg hm hv ha hn hdb he hpl) tM_call
theorem ce_callT {f : List D → R D} {T : String} {x : Str} {p : Pos} (hc : CallR X (.type T) (rDs X.K f)) (hm : X.mg x = none) (hv : bootBuiltins x = some (.type T)) (ha : CA X P0 O W E (e :: es) ms) (hg : Gl X x := by rfl) (hn : x ≠ "__name__" := by decide) (hdb : (x == ("__debug__" : Str)) = false := by decide)
    (he : starEach (e :: es) X.env = (false, eval e X.env) :: starEach es X.env := by rfl) (hpl : (backTo pos (starEach es X.env)).any (·.1) = false := by rfl) : CEx X P0 O W E (.Call (.Name x p) (e :: es) [] pos) (cCall f ms) := PE.imp (pe_callTy hc hg hm hv ha hn hdb he hpl) tM_call
def lenD : List D → R D
  | [.str x] => if szOk x.length = true then .ok (.int x.length) else .stk
  | [.tup ds] => .ok (.int ds.length)
  | [.lst ds] => .ok (.int ds.length)
  | [.arg ns] => .ok (.int ns.length)
  | [.ftu ds] => .ok (.int ds.length)
  | _ => .stk
def max2D : List D → R D
  | [.int i, .int j] => .ok (.int (max i j))
  | _ => .stk
def min2D : List D → R D
  | [.int i, .int j] => .ok (.int (min i j))
  | _ => .stk
/-- the ints of a list -/
def intsOf : List D → Option (List Int)
  | [] => some []
  | .int i :: ds => (intsOf ds).map (i :: ·)
  | _ => none
def blsOf : List D → Option (List Bool)
  | [] => some []
  | .bl i :: ds => (blsOf ds).map (i :: ·)
  | _ => none
def strsOf : List D → Option (List Str)
  | [] => some []
  | .str i :: ds => (strsOf ds).map (i :: ·)
  | _ => none
def sumD : List D → R D
  | [.lst ds] => match intsOf ds with
    | some ns => .ok (.int ns.sum)
    | none => .stk
  | _ => .stk
def allD : List D → R D
  | [.lst ds] => match blsOf ds with
    | some bs => .ok (.bl (bs.all id))
    | none => .stk
  | _ => .stk
def anyD : List D → R D
  | [.lst ds] => match blsOf ds with
    | some bs => .ok (.bl (bs.any id))
    | none => .stk
  | _ => .stk
/-- tuple(x), list(x) -/
def tupleD : List D → R D
  | [.lst ds] => .ok (.tup ds)
  | [.tup ds] => .ok (.tup ds)
  | [.ftu ds] => .ok (.ftu ds)
  | _ => .stk
def listD : List D → R D
  | [.lst ds] => .ok (.lst ds)
  | [.tup ds] => .ok (.lst ds)
  | [.ftu ds] => .ok (.lst ds)
  | _ => .stk
def intOfD : List D → R D
  | [.int i] => .ok (.int i)
  | [.bl k] => .ok (.int (if k then 1 else 0))
  | [.str x] => if x.length = 1 ∧ 48 ≤ x.cps.getD 0 0 ∧ x.cps.getD 0 0 < 58 then .ok (.int ((x.cps.getD 0 0 : Nat) - 48)) else .stk
  | _ => .stk
def boolOfD : List D → R D
  | [.int i] => .ok (.bl (i != 0))
  | [.bl k] => .ok (.bl k)
  | _ => .stk
theorem ints_rep {K : PySem.W.Frag} {H : Hp} {P : Pr} : ∀ {ds : List D} {ns : List Int} {vs : List V}, intsOf ds = some ns → Reps K H ds P vs → vs = ns.map V.int
  | [], ns, vs, e, h => by simp [intsOf] at e; subst e; exact h.nil_iff
  | d :: ds, ns, vs, e, h => by
    cases d <;> simp [intsOf] at e
    obtain ⟨ms, e1, rfl⟩ := e
    obtain ⟨v, ws, rfl, h1, h2⟩ := h.cons_iff
    unfold Rep at h1
    rw [h1, ints_rep e1 h2]
    rfl
theorem bls_rep {K : PySem.W.Frag} {H : Hp} {P : Pr} : ∀ {ds : List D} {ns : List Bool} {vs : List V}, blsOf ds = some ns → Reps K H ds P vs → vs = ns.map V.bl
  | [], ns, vs, e, h => by simp [blsOf] at e; subst e; exact h.nil_iff
  | d :: ds, ns, vs, e, h => by
    cases d <;> simp [blsOf] at e
    obtain ⟨ms, e1, rfl⟩ := e
    obtain ⟨v, ws, rfl, h1, h2⟩ := h.cons_iff
    unfold Rep at h1
    rw [h1, bls_rep e1 h2]
    rfl
theorem strs_rep {K : PySem.W.Frag} {H : Hp} {P : Pr} : ∀ {ds : List D} {ns : List Str} {vs : List V}, strsOf ds = some ns → Reps K H ds P vs → vs = ns.map V.str
  | [], ns, vs, e, h => by simp [strsOf] at e; subst e; exact h.nil_iff
  | d :: ds, ns, vs, e, h => by
    cases d <;> simp [strsOf] at e
    obtain ⟨ms, e1, rfl⟩ := e
    obtain ⟨v, ws, rfl, h1, h2⟩ := h.cons_iff
    unfold Rep at h1
    rw [h1, strs_rep e1 h2]
    rfl
theorem int2_of {f : Int → Int → D} {g : List D → R D} {ds : List D} {z : D} (hg : ∀ ds, g ds = match ds with | [.int i, .int j] => .ok (f i j) | _ => .stk) (h : g ds = .ok z) : ∃ i j, ds = [.int i, .int j] ∧ z = f i j := by
  rw [hg] at h
  split at h
  · cases h; exact ⟨_, _, rfl, rfl⟩
  · cases h
theorem cd_len : CallR X (.builtin "len") (rDs X.K lenD) := by
  intro pins s σ H xs us Q I r ⟨P, ds, dz, hm, rs, e, out⟩
  unfold lenD at e
  split at e
  · split at e
    · rename_i c; cases e
      obtain ⟨v, rfl, r1⟩ := rs.get1
      obtain rfl := r1.str
      exact call_len pins s σ H _ us Q I r ⟨_, _, rfl, ⟨of_decide_eq_true c, rfl⟩, out.int⟩
    · cases e
  · cases e
    obtain ⟨v, rfl, r1⟩ := rs.get1
    obtain ⟨a, vs, rfl, h1, h2⟩ := r1.tup
    rw [← h2.length] at out
    exact call_len pins s σ H _ us Q I r ⟨_, _, rfl, .inr ⟨vs, SqT.of h1, rfl⟩, out.int⟩
  · cases e
    obtain ⟨v, rfl, r1⟩ := rs.get1
    obtain ⟨a, vs, rfl, h1, h2⟩ := r1.lst
    rw [← h2.length] at out
    exact call_len pins s σ H _ us Q I r ⟨_, _, rfl, .inl ⟨vs, SqL.of h1, rfl⟩, out.int⟩
  · cases e
    obtain ⟨v, rfl, r1⟩ := rs.get1
    obtain ⟨a, rfl, h1⟩ := r1.arg
    refine call_len pins s σ H _ us Q I r ⟨_, _, rfl, .inl ⟨_, h1, rfl⟩, ?_⟩
    rw [List.length_map]
    exact out.int
  · cases e
    obtain ⟨v, rfl, r1⟩ := rs.get1
    obtain ⟨a, vs, o, rfl, h1, _, h2⟩ := r1.ftu
    rw [← h2.length] at out
    exact call_len pins s σ H _ us Q I r ⟨_, _, rfl, .inr ⟨vs, SqT.fz h1, rfl⟩, out.int⟩
  · cases e
theorem cd_max (hc : X.calm = true) : CallR X (.builtin "max") (rDs X.K max2D) := by
  intro pins s σ H xs us Q I r ⟨P, ds, dz, hm, rs, e, out⟩
  obtain ⟨i, j, rfl, rfl⟩ := int2_of (f := fun i j => .int (max i j)) (fun ds => by unfold max2D; rfl) e
  obtain ⟨v, w, rfl, r1, r2⟩ := rs.get2
  obtain rfl := r1.int
  obtain rfl := r2.int
  refine call_max2 hc pins s σ H _ us Q I r ⟨i, j, rfl, ?_⟩
  rw [show (if j > i then j else i) = max i j by omega]
  exact out.int
theorem cd_min (hc : X.calm = true) : CallR X (.builtin "min") (rDs X.K min2D) := by
  intro pins s σ H xs us Q I r ⟨P, ds, dz, hm, rs, e, out⟩
  obtain ⟨i, j, rfl, rfl⟩ := int2_of (f := fun i j => .int (min i j)) (fun ds => by unfold min2D; rfl) e
  obtain ⟨v, w, rfl, r1, r2⟩ := rs.get2
  obtain rfl := r1.int
  obtain rfl := r2.int
  refine call_min2 hc pins s σ H _ us Q I r ⟨i, j, rfl, ?_⟩
  rw [show (if j < i then j else i) = min i j by omega]
  exact out.int
theorem cd_all (hc : X.calm = true) : CallR X (.builtin "all") (rDs X.K allD) := by
  intro pins s σ H xs us Q I r ⟨P, ds, dz, hm, rs, e, out⟩
  unfold allD at e
  split at e
  · split at e
    · rename_i ns c; cases e
      obtain ⟨v, rfl, r1⟩ := rs.get1
      obtain ⟨a, vs, rfl, h1, h2⟩ := r1.lst
      obtain rfl := bls_rep c h2
      exact cr_all hc pins s σ H _ us Q I r ⟨a, ns, rfl, SqL.of h1, out.bl⟩
    · cases e
  · cases e
theorem cd_any (hc : X.calm = true) : CallR X (.builtin "any") (rDs X.K anyD) := by
  intro pins s σ H xs us Q I r ⟨P, ds, dz, hm, rs, e, out⟩
  unfold anyD at e
  split at e
  · split at e
    · rename_i ns c; cases e
      obtain ⟨v, rfl, r1⟩ := rs.get1
      obtain ⟨a, vs, rfl, h1, h2⟩ := r1.lst
      obtain rfl := bls_rep c h2
      exact cr_any hc pins s σ H _ us Q I r ⟨a, ns, rfl, SqL.of h1, out.bl⟩
    · cases e
  · cases e
theorem cd_tuple : CallR X (.type "tuple") (rDs X.K tupleD) := by
  intro pins s σ H xs us Q I r ⟨P, ds, dz, hm, rs, e, out⟩
  unfold tupleD at e
  split at e
  · cases e
    obtain ⟨v, rfl, r1⟩ := rs.get1
    obtain ⟨a, vs, rfl, h1, h2⟩ := r1.lst
    exact call_tuple_of pins s σ H _ us Q I r ⟨a, vs, rfl, .inl ⟨SqL.of h1, fun l hl => out.newT hm h2 hl⟩⟩
  · cases e
    obtain ⟨v, rfl, r1⟩ := rs.get1
    obtain ⟨a, vs, rfl, h1, h2⟩ := r1.tup
    exact call_tuple_of pins s σ H _ us Q I r ⟨a, vs, rfl, .inr ⟨SqT.of h1, out.flat (Rep.tup_of h1 h2) rfl⟩⟩
  · cases e
    obtain ⟨v, rfl, r1⟩ := rs.get1
    obtain ⟨a, vs, o, rfl, h1, hd, h2⟩ := r1.ftu
    exact call_tuple_of pins s σ H _ us Q I r ⟨a, vs, rfl, .inr ⟨SqT.fz h1, out.flat (Rep.ftu_of h1 hd h2) rfl⟩⟩
  · cases e
theorem cd_list : CallR X (.type "list") (rDs X.K listD) := by
  intro pins s σ H xs us Q I r ⟨P, ds, dz, hm, rs, e, out⟩
  unfold listD at e
  split at e
  · cases e
    obtain ⟨v, rfl, r1⟩ := rs.get1
    obtain ⟨a, vs, rfl, h1, h2⟩ := r1.lst
    exact call_list_of pins s σ H _ us Q I r ⟨a, vs, rfl, .inl (SqL.of h1), fun l hl => out.newL hm h2 hl⟩
  · cases e
    obtain ⟨v, rfl, r1⟩ := rs.get1
    obtain ⟨a, vs, rfl, h1, h2⟩ := r1.tup
    exact call_list_of pins s σ H _ us Q I r ⟨a, vs, rfl, .inr (SqT.of h1), fun l hl => out.newL hm h2 hl⟩
  · cases e
    obtain ⟨v, rfl, r1⟩ := rs.get1
    obtain ⟨a, vs, o, rfl, h1, _, h2⟩ := r1.ftu
    exact call_list_of pins s σ H _ us Q I r ⟨a, vs, rfl, .inr (SqT.fz h1), fun l hl => out.newL hm h2 hl⟩
  · cases e
theorem cd_bool : CallR X (.type "bool") (rDs X.K boolOfD) := by
  intro pins s σ H xs us Q I r ⟨P, ds, dz, hm, rs, e, out⟩
  unfold boolOfD at e
  split at e
  · cases e
    obtain ⟨v, rfl, r1⟩ := rs.get1
    obtain rfl := r1.int
    exact call_bool1 pins s σ H _ us Q I r (.inl ⟨_, rfl, out.bl⟩)
  · cases e
    obtain ⟨v, rfl, r1⟩ := rs.get1
    obtain rfl := r1.bl
    exact call_bool1 pins s σ H _ us Q I r (.inr ⟨_, rfl, out.bl⟩)
  · cases e
theorem digit_text : ∀ c : Nat, 48 ≤ c → c < 58 → PySem.intText? ⟨#[c]⟩ = some ((c : Int) - 48) := by
  intro c h1 h2
  have : c = 48 ∨ c = 49 ∨ c = 50 ∨ c = 51 ∨ c = 52 ∨ c = 53 ∨ c = 54 ∨ c = 55 ∨ c = 56 ∨ c = 57 := by omega
  rcases this with rfl | rfl | rfl | rfl | rfl | rfl | rfl | rfl | rfl | rfl <;> decide +kernel
theorem cd_int : CallR X (.type "int") (rDs X.K intOfD) := by
  intro pins s σ H xs us Q I r ⟨P, ds, dz, hm, rs, e, out⟩
  unfold intOfD at e
  split at e
  · cases e
    obtain ⟨v, rfl, r1⟩ := rs.get1
    obtain rfl := r1.int
    exact call_int1 pins s σ H _ us Q I r (.inl ⟨_, rfl, out.int⟩)
  · cases e
    obtain ⟨v, rfl, r1⟩ := rs.get1
    obtain rfl := r1.bl
    exact call_int1 pins s σ H _ us Q I r (.inr ⟨_, rfl, out.int⟩)
  · split at e
    · rename_i x c; cases e
      obtain ⟨v, rfl, r1⟩ := rs.get1
      obtain rfl := r1.str
      refine call_int_str pins s σ H _ us Q I r ⟨x, _, rfl, ?_, by rw [c.1]; decide, out.int⟩
      have q := digit_text _ c.2.1 c.2.2
      rw [one_sign c.1]
      exact q
    · cases e
  · cases e
end
end Y

set_option Elab.async false
set_option linter.all false
set_option maxRecDepth 100000
namespace Y
open PySem PySem.Spec PyProof.Rows L2

def ixD : D → D → R D
  | .str x, .int i => match atI x.cps.toList i with
    | some c => if szOk x.length = true then .ok (.str ⟨#[c]⟩) else .stk
    | none => .stk
  | .tup ds, .int i => match atI ds i with | some d => .ok d | none => .stk
  | .lst ds, .int i => match atI ds i with | some d => .ok d | none => .stk
  | .arg ns, .int i => match atI ns i with | some n => .ok (.int n) | none => .stk
  | .ftu ds, .int i => match atI ds i with | some d => .ok d | none => .stk
  | _, _ => .stk
def cIx (a b : EM) : EM := fun ρ => do
  let (h1, ρ1) ← a ρ
  let (h2, ρ2) ← b ρ1
  let x ← (h1.d ρ2).nox
  let y ← (h2.d ρ2).nox
  let z ← (ixD x y).nox
  pure (.vl z, ρ2)
theorem Reps.atI {K : PySem.W.Frag} {H : Hp} {P : Pr} {ds : List D} {vs : List V} {i : Int} {d : D} (h : Reps K H ds P vs) (e : L2.atI ds i = some d) : ∃ v, L2.atI vs i = some v ∧ Rep K H d P v := by
  unfold L2.atI at e ⊢
  rw [h.length]
  cases q : ixN ds.length i with
  | none => rw [q] at e; cases e
  | some j => rw [q] at e; exact h.get e
theorem ints_atI {ns : List Int} {i n : Int} (e : atI ns i = some n) : atI (ns.map V.int) i = some (.int n) := by
  unfold atI at e ⊢
  rw [List.length_map]
  cases q : ixN ns.length i with
  | none => rw [q] at e; cases e
  | some j =>
    rw [q] at e
    show (ns.map V.int)[j]? = _
    rw [List.getElem?_map, show ns[j]? = some n from e]
    rfl
/-- the items of ds[lo:hi] -/
def cutD (ds : List D) (lo hi : Option Int) : List D := (ds.drop (HT.sIx ds.length 0 lo)).take (HT.sIx ds.length ds.length hi - HT.sIx ds.length 0 lo)
theorem Reps.drop {K : PySem.W.Frag} {H : Hp} {P : Pr} : ∀ (n : Nat) {ds : List D} {vs : List V}, Reps K H ds P vs → Reps K H (ds.drop n) P (vs.drop n)
  | 0, _, _, h => h
  | n + 1, [], _, h => by rw [h.nil_iff]; exact Reps.nil
  | n + 1, d :: ds, _, h => by
    obtain ⟨v, ws, rfl, _, h2⟩ := h.cons_iff
    exact Reps.drop n h2
theorem Reps.take {K : PySem.W.Frag} {H : Hp} {P : Pr} : ∀ (n : Nat) {ds : List D} {vs : List V}, Reps K H ds P vs → Reps K H (ds.take n) P (vs.take n)
  | 0, _, _, h => Reps.nil
  | n + 1, [], _, h => by rw [h.nil_iff]; exact Reps.nil
  | n + 1, d :: ds, _, h => by
    obtain ⟨v, ws, rfl, h1, h2⟩ := h.cons_iff
    exact Reps.cons h1 (Reps.take n h2)
theorem Reps.cut {K : PySem.W.Frag} {H : Hp} {P : Pr} {ds : List D} {vs : List V} (h : Reps K H ds P vs) (lo hi : Option Int) : Reps K H (cutD ds lo hi) P (cutV vs lo hi) := by
  unfold cutD cutV
  rw [h.length]
  exact (h.drop _).take _
def sliceD : D → Option Int → Option Int → R D
  | .str x, lo, hi => if szOk x.length = true then .ok (.str (cutS x lo hi)) else .stk
  | .tup ds, lo, hi => .ok (.tup (cutD ds lo hi))
  | .lst ds, lo, hi => .ok (.lst (cutD ds lo hi))
  | _, _, _ => .stk
abbrev OM := Env → R (Option Int × Env)
def cNoPart : OM := fun ρ => .ok (none, ρ)
def cPart (m : EM) : OM := fun ρ => do
  let (h, ρ1) ← m ρ
  let d ← h.v.nox
  match d with
  | .int i => pure (some i, ρ1)
  | _ => .stk
def cSlice (a : EM) (lo hi : OM) : EM := fun ρ => do
  let (h, ρ1) ← a ρ
  let (l, ρ2) ← lo ρ1
  let (u, ρ3) ← hi ρ2
  let d ← (h.d ρ3).nox
  let z ← (sliceD d l u).nox
  pure (.fr z, ρ3)
def tMo (K : PySem.W.Frag) (P0 : Pr) (O W : List Nat) (E : EK) (m : OM) : TO := fun σ H Q => ∃ ρ, Sim K P0 O W ρ σ H ∧ Res E W σ H (m ρ) fun a => ∀ H', Sim K P0 O W a.2 σ H' → Keep W σ H H' → Q a.1 H'
theorem PO.imp {X : Cx} {e : Option Expr} {t t' : TO} (h : PO X e t) (i : ∀ σ H Q, t' σ H Q → t σ H Q) : PO X e t' := by
  cases h with
  | mk h => exact ⟨fun pins s σ H Q I q => h pins s σ H Q I (i σ H Q q)⟩
section
variable {X : Cx} {P0 : Pr} {O W : List Nat} {E : EK} {a b c e : Expr} {es : List Expr} {ma mb mc : EM} {ms : AM} {pos : Pos}
abbrev CO (X : Cx) (P0 : Pr) (O W : List Nat) (E : EK) (e : Option Expr) (m : OM) : Prop := PO X e (tMo X.K P0 O W E m)
theorem co_none : CO X P0 O W E none cNoPart := PO.imp po_none fun σ H Q ⟨ρ, S, h⟩ => h H S .refl
theorem co_some (h : CEx X P0 O W E e ma) : CO X P0 O W E (some e) (cPart ma) := PO.imp (po_some h) fun σ H Q ⟨ρ, S, h⟩ =>
  ⟨ρ, S, h.of_bind.mono fun ⟨h1, ρ1⟩ q v H1 S1 k1 r1 => by
    obtain ⟨d, e1, q⟩ := q.of_nox
    have r := r1.v e1
    cases d <;> first | (exact q.elim) | skip
    unfold Rep at r
    exact ⟨_, r, q H1 S1 k1⟩⟩
theorem ce_ix (ha : CEx X P0 O W E a ma) (hb : CEx X P0 O W E b mb) (hs : PlainIx b := by intro _ _; rfl) : CEx X P0 O W E (.Subscript a b pos) (cIx ma mb) := PE.imp (pe_ix ix_seq ha hb hs) fun σ H Q ⟨ρ, S, h⟩ => by
  refine ⟨ρ, S, h.of_bind.mono fun ⟨h1, ρ1⟩ q x H1 S1 k1 r1 => ⟨ρ1, S1, (q.keep k1).of_bind.mono fun ⟨h2, ρ2⟩ q2 y H2 S2 k2 r2 => ?_⟩⟩
  obtain ⟨dx, e1, q3⟩ := q2.of_nox
  obtain ⟨dy, e2, q4⟩ := q3.of_nox
  obtain ⟨dz, e3, q5⟩ := q4.of_nox
  have rx := (r1.keep S1 k2).d S2 e1
  have ry := r2.d S2 e2
  have fin : ∀ v, Rep X.K H2 dz (FA P0 O σ) v → Q v H2 := fun v r => q5 v H2 S2 (k1.trans k2) r
  unfold ixD at e3
  split at e3
  · split at e3
    · split at e3
      · rename_i c' hc z; cases e3
        obtain rfl := rx.str
        obtain rfl := ry.int
        exact .inr (.inr ⟨_, _, _, rfl, rfl, of_decide_eq_true z, hc, fin _ (by unfold Rep; rfl)⟩)
      · cases e3
    · cases e3
  · split at e3
    · rename_i d hd; cases e3
      obtain ⟨p, vs, rfl, t1, t2⟩ := rx.tup
      obtain rfl := ry.int
      obtain ⟨v, e4, r4⟩ := t2.atI hd
      exact .inr (.inl ⟨p, vs, _, v, rfl, rfl, SqT.of t1, e4, fin v r4⟩)
    · cases e3
  · split at e3
    · rename_i d hd; cases e3
      obtain ⟨p, vs, rfl, t1, t2⟩ := rx.lst
      obtain rfl := ry.int
      obtain ⟨v, e4, r4⟩ := t2.atI hd
      exact .inl ⟨p, vs, _, v, rfl, rfl, SqL.of t1, e4, fin v r4⟩
    · cases e3
  · split at e3
    · rename_i d hd; cases e3
      obtain ⟨p, rfl, t1⟩ := rx.arg
      obtain rfl := ry.int
      exact .inl ⟨p, _, _, _, rfl, rfl, t1, ints_atI hd, fin _ (by unfold Rep; rfl)⟩
    · cases e3
  · split at e3
    · rename_i d hd; cases e3
      obtain ⟨p, vs, o, rfl, t1, _, t2⟩ := rx.ftu
      obtain rfl := ry.int
      obtain ⟨v, e4, r4⟩ := t2.atI hd
      exact .inr (.inl ⟨p, vs, _, v, rfl, rfl, SqT.fz t1, e4, fin v r4⟩)
    · cases e3
  · cases e3
theorem ce_slice {lo hi : Option Expr} {ml mh : OM} {p2 : Pos} (ha : CEx X P0 O W E a ma) (hl : CO X P0 O W E lo ml) (hh : CO X P0 O W E hi mh) : CEx X P0 O W E (.Subscript a (.Slice lo hi none p2) pos) (cSlice ma ml mh) := PE.imp (pe_slice (sl_list.or (sl_tupA.or sl_str)) ha hl hh) fun σ H Q ⟨ρ, S, h⟩ => by
  refine ⟨ρ, S, h.of_bind.mono fun ⟨h1, ρ1⟩ q x H1 S1 k1 r1 => ⟨ρ1, S1, (q.keep k1).of_bind.mono fun ⟨l, ρ2⟩ q2 H2 S2 k2 => ⟨ρ2, S2, (q2.keep k2).of_bind.mono fun ⟨u, ρ3⟩ q3 H3 S3 k3 => ?_⟩⟩⟩
  obtain ⟨dx, e1, q4⟩ := q3.of_nox
  obtain ⟨dz, e3, q5⟩ := q4.of_nox
  have rx := (r1.keep S1 (k2.trans k3)).d S3 e1
  have out := out_of S3 ((k1.trans k2).trans k3) q5
  unfold sliceD at e3
  split at e3
  · split at e3
    · rename_i z; cases e3
      obtain rfl := rx.str
      exact .inr (.inr ⟨_, rfl, of_decide_eq_true z, out.str⟩)
    · cases e3
  · cases e3
    obtain ⟨p, vs, rfl, t1, t2⟩ := rx.tup
    have t3 := t2.cut l u
    refine .inr (.inl ⟨p, vs, rfl, SqT.of t1, fun z => ?_, fun _ p hp => out.newT S3.dom t3 hp⟩)
    have e4 : cutV vs l u = vs := by
      unfold cutV
      rw [z.1, z.2, List.drop_zero, Nat.sub_zero, List.take_length]
    rw [e4] at t3
    exact out.flat (Rep.tup_of t1 t3) rfl
  · cases e3
    obtain ⟨p, vs, rfl, t1, t2⟩ := rx.lst
    exact .inl ⟨p, vs, rfl, SqL.of t1, fun p hp => out.newL S3.dom (t2.cut l u) hp⟩
  · cases e3
end

/-- behind a statement or an expression: U: own slots that keep their objects -/
structure Tr (O U : List Nat) (σ : St) (H : Hp) (σ' : St) (H' : Hp) : Prop where
  keep : ∀ b o, H b = some o → ¬ OA O σ b → H' b = some o
  some : ∀ b, H b ≠ none → H' b ≠ none
  own : ∀ b, OA O σ' b → OA O σ b ∨ H b = none
  unch : ∀ i ∈ U, σ'[i]? = σ[i]?
theorem Tr.of {O W U : List Nat} {σ : St} {H H' : Hp} (hs : ∀ i ∈ W, i ∈ O) (k : Keep W σ H H') : Tr O U σ H σ H' := ⟨fun b o e n => k.keep b o e fun ⟨i, hi, z⟩ => n ⟨i, hs i hi, z⟩, k.some, fun _ z => .inl z, fun _ _ => rfl⟩
theorem Tr.refl {O U : List Nat} {σ : St} {H : Hp} : Tr O U σ H σ H := ⟨fun _ _ e _ => e, fun _ e => e, fun _ z => .inl z, fun _ _ => rfl⟩
theorem Tr.trans {O U : List Nat} {σ σ1 σ2 : St} {H H1 H2 : Hp} (a : Tr O U σ H σ1 H1) (b : Tr O U σ1 H1 σ2 H2) : Tr O U σ H σ2 H2 where
  keep := fun c o e n => b.keep c o (a.keep c o e n) fun z => by
    rcases a.own c z with z | z
    · exact n z
    · rw [e] at z; cases z
  some := fun c e => b.some c (a.some c e)
  own := fun c z => by
    rcases b.own c z with z | z
    · exact a.own c z
    · exact .inr (Classical.byContradiction fun q => a.some c q z)
  unch := fun i hi => (b.unch i hi).trans (a.unch i hi)
theorem Tr.less {O U U' : List Nat} {σ σ1 : St} {H H1 : Hp} (a : Tr O U σ H σ1 H1) (h : ∀ i ∈ U', i ∈ U) : Tr O U' σ H σ1 H1 := ⟨a.keep, a.some, a.own, fun i hi => a.unch i (h i hi)⟩
section
variable {K : PySem.W.Frag} {P0 : Pr} {O W U : List Nat} {ρ ρ' : Env} {σ σ' : St} {H H' : Hp}
end
end Y

set_option Elab.async false
set_option linter.all false
set_option maxRecDepth 100000
namespace Y
open PySem PySem.Spec PyProof.Rows L2

/-- v is the datum d that the handle tells, and stays so -/
def Hold (K : PySem.W.Frag) (O : List Nat) (h : Hd) (d : D) (v : V) (P0 : Pr) (ρ : Env) (σ : St) (H : Hp) : Prop := match h with
  | .ow i => i ∈ O ∧ ρ[i]? = some (some d) ∧ σ[i]? = some (some v)
  | _ => Rep K H d (FA P0 O σ) v
def Hd.ws : Hd → List Nat
  | .ow i => [i]
  | _ => []
section
variable {K : PySem.W.Frag} {P0 P1 : Pr} {O W : List Nat} {ρ ρ' : Env} {σ σ' : St} {H H' Hs : Hp} {h : Hd} {d : D} {v : V}
theorem Hold.rep (S : Sim K P0 O W ρ σ H) (o : Hold K O h d v P0 ρ σ H) : RepW K H d (FA P0 O σ) v := by
  cases h with
  | fr d' => exact Rep.weak S.dom o
  | vl d' => exact Rep.weak S.dom o
  | ow i =>
    obtain ⟨w, h1, h2⟩ := S.own i d o.2.1 o.1
    rw [o.2.2] at h1; cases h1
    exact h2.weak
theorem HdR.hold (r : HdR K P0 O Hs σ H h v) (e : h.d ρ = .ok d) : Hold K O h d v P0 ρ σ H := by
  cases h with
  | fr d' => cases e; exact r.1
  | vl d' => cases e; exact r
  | ow i => exact ⟨r.1, look_some e, r.2⟩
theorem Hold.keep (S : Sim K P0 O W ρ σ H) (o : Hold K O h d v P0 ρ σ H) (k : ∀ b o, H b = some o → ¬ FA P0 O σ b → H' b = some o) (w : ∀ b, FA P0 O σ' b → FA P0 O σ b ∨ H b = none)
    (hw : ∀ w ∈ h.ws, σ'[w]? = σ[w]? ∧ ρ'[w]? = ρ[w]?) : Hold K O h d v P0 ρ' σ' H' := by
  cases h with
  | fr d' => exact Rep.mono d S.dom k w o
  | vl d' => exact Rep.mono d S.dom k w o
  | ow i =>
    obtain ⟨h1, h2⟩ := hw i (by simp [Hd.ws])
    exact ⟨o.1, h2.trans o.2.1, h1.trans o.2.2⟩
theorem Hold.grow (S : Sim K P0 O W ρ σ H) (o : Hold K O h d v P0 ρ σ H) (w : ∀ b, P1 b → P0 b ∨ H b = none) (k : Same H H') : Hold K O h d v P1 ρ σ H' := by
  have q : ∀ b, FA P1 O σ b → FA P0 O σ b ∨ H b = none := fun b z => by
    rcases z with z | z
    · rcases w b z with z | z
      · exact .inl (.inl z)
      · exact .inr z
    · exact .inl (.inr z)
  cases h with
  | fr d' => exact Rep.mono d S.dom (fun b o e _ => k b o e) q o
  | vl d' => exact Rep.mono d S.dom (fun b o e _ => k b o e) q o
  | ow i => exact o
end
theorem Hold.mem {K : PySem.W.Frag} {P0 : Pr} {O : List Nat} {ρ : Env} {σ : St} {H : Hp} {h : Hd} {d : D} {v : V} (o : Hold K O h d v P0 ρ σ H) : ∀ w ∈ h.ws, w ∈ O := by
  cases h with
  | fr _ => exact fun w z => nomatch z
  | vl _ => exact fun w z => nomatch z
  | ow i =>
    intro w z
    have z : w = i := by simpa [Hd.ws] using z
    rw [z]; exact o.1
/-- an iterator gives ds; ws: own slots that it reads from; Ok: what must stay -/
structure Src (K : PySem.W.Frag) (O W : List Nat) (ds : List D) (ws : List Nat) (J : It) (Ok : Pr → Env → St → Hp → Prop) : Prop where
  go : ∀ P0 i ρ σ H, Sim K P0 O W ρ σ H → Ok P0 ρ σ H → i < ds.length → J.go i H
  stop : ∀ P0 ρ σ H, Sim K P0 O W ρ σ H → Ok P0 ρ σ H → J.stop ds.length H
  yld : ∀ P0 (i : Nat) ρ σ H x H' d, Sim K P0 O W ρ σ H → Ok P0 ρ σ H → ds[i]? = some d → J.yld i H x H' → Same H H' ∧ Rep K H' d (FA P0 O σ) x
  keep : ∀ P0 ρ σ H ρ' σ' H', Sim K P0 O W ρ σ H → (∀ b o, H b = some o → ¬ FA P0 O σ b → H' b = some o) → (∀ b, FA P0 O σ' b → FA P0 O σ b ∨ H b = none) → (∀ w ∈ ws, σ'[w]? = σ[w]? ∧ ρ'[w]? = ρ[w]?) → Ok P0 ρ σ H → Ok P0 ρ' σ' H'
  mem : ∀ P0 ρ σ H, Ok P0 ρ σ H → ∀ w ∈ ws, w ∈ O
  grow : ∀ P0 P1 ρ σ H H', Sim K P0 O W ρ σ H → (∀ b, P1 b → P0 b ∨ H b = none) → Same H H' → Ok P0 ρ σ H → Ok P1 ρ σ H'
abbrev IM := Env → R ((List D × List Nat) × Env)
def tMi (K : PySem.W.Frag) (P0 : Pr) (O W : List Nat) (E : EK) (m : IM) : TI := fun σ H R => ∃ ρ, Sim K P0 O W ρ σ H ∧
  Res E W σ H (m ρ) fun a => ∀ J H' Ok, Sim K P0 O W a.2 σ H' → Keep W σ H H' → Src K O W a.1.1 a.1.2 J Ok → Ok P0 a.2 σ H' → a.1.1.length ≤ sizeLine → R J H'
theorem PI.imp {X : Cx} {tg e : Expr} {t t' : TI} (h : PI X tg e t) (i : ∀ σ H R, t' σ H R → t σ H R) : PI X tg e t' := ⟨fun pins s σ H R I q => h.run pins s σ H R I (i σ H R q)⟩
theorem PI.or {X : Cx} {tg e : Expr} {t t' : TI} (h : PI X tg e t) (h' : PI X tg e t') : PI X tg e fun σ H R => t σ H R ∨ t' σ H R :=
  ⟨fun pins s σ H R I q => q.elim (h.run pins s σ H R I) (h'.run pins s σ H R I)⟩
section
variable {K : PySem.W.Frag} {O W : List Nat} {h h2 : Hd}
/-- over a list that a handle tells -/
theorem src_list {a : Addr} {ds : List D} : Src K O W ds h.ws (Itl K a) (Hold K O h (.lst ds) (.ref a)) where
  go := fun P0 i ρ σ H S ok hi => by
    obtain ⟨p, vs, e, t1, t2⟩ := (ok.rep S).lst
    cases e
    exact walk_list.goes i H (by rw [t2.length]; exact hi) (SqL.of t1)
  stop := fun P0 ρ σ H S ok => by
    obtain ⟨p, vs, e, t1, t2⟩ := (ok.rep S).lst
    cases e
    rw [← t2.length]
    exact walk_list.stops H (SqL.of t1)
  yld := fun P0 i ρ σ H x H' d S ok hd y => by
    obtain ⟨p, vs, e, t1, t2⟩ := (ok.rep S).lst
    cases e
    obtain ⟨v, e1, r⟩ := t2.get hd
    obtain ⟨e2, e3⟩ := walk_list.yields i H x H' (by rw [t2.length]; exact (List.getElem?_eq_some_iff.mp hd).1) (SqL.of t1) y
    subst e2
    rw [e1] at e3; cases e3
    exact ⟨fun _ _ z => z, r⟩
  keep := fun P0 ρ σ H ρ' σ' H' S k w hw ok => ok.keep S k w hw
  mem := fun P0 ρ σ H ok => ok.mem
  grow := fun P0 P1 ρ σ H H' S w k ok => ok.grow S w k
theorem src_tup {a : Addr} {ds : List D} : Src K O W ds h.ws (Itt K a) (Hold K O h (.tup ds) (.ref a)) where
  go := fun P0 i ρ σ H S ok hi => by
    obtain ⟨p, vs, e, t1, t2⟩ := (ok.rep S).tup
    cases e
    exact walk_tup.goes i H (by rw [t2.length]; exact hi) (SqT.of t1)
  stop := fun P0 ρ σ H S ok => by
    obtain ⟨p, vs, e, t1, t2⟩ := (ok.rep S).tup
    cases e
    rw [← t2.length]
    exact walk_tup.stops H (SqT.of t1)
  yld := fun P0 i ρ σ H x H' d S ok hd y => by
    obtain ⟨p, vs, e, t1, t2⟩ := (ok.rep S).tup
    cases e
    obtain ⟨v, e1, r⟩ := t2.get hd
    obtain ⟨e2, e3⟩ := walk_tup.yields i H x H' (by rw [t2.length]; exact (List.getElem?_eq_some_iff.mp hd).1) (SqT.of t1) y
    subst e2
    rw [e1] at e3; cases e3
    exact ⟨fun _ _ z => z, r⟩
  keep := fun P0 ρ σ H ρ' σ' H' S k w hw ok => ok.keep S k w hw
  mem := fun P0 ρ σ H ok => ok.mem
  grow := fun P0 P1 ρ σ H H' S w k ok => ok.grow S w k
theorem src_ftu {a : Addr} {ds : List D} : Src K O W ds h.ws (Itt K a) (Hold K O h (.ftu ds) (.ref a)) where
  go := fun P0 i ρ σ H S ok hi => by
    obtain ⟨p, vs, o, e, t1, _, t2⟩ := (ok.rep S).ftu
    cases e
    exact walk_tup.goes i H (by rw [t2.length]; exact hi) (SqT.fz t1)
  stop := fun P0 ρ σ H S ok => by
    obtain ⟨p, vs, o, e, t1, _, t2⟩ := (ok.rep S).ftu
    cases e
    rw [← t2.length]
    exact walk_tup.stops H (SqT.fz t1)
  yld := fun P0 i ρ σ H x H' d S ok hd y => by
    obtain ⟨p, vs, o, e, t1, _, t2⟩ := (ok.rep S).ftu
    cases e
    obtain ⟨v, e1, r⟩ := t2.get hd
    obtain ⟨e2, e3⟩ := walk_tup.yields i H x H' (by rw [t2.length]; exact (List.getElem?_eq_some_iff.mp hd).1) (SqT.fz t1) y
    subst e2
    rw [e1] at e3; cases e3
    exact ⟨fun _ _ z => z, r⟩
  keep := fun P0 ρ σ H ρ' σ' H' S k w hw ok => ok.keep S k w hw
  mem := fun P0 ρ σ H ok => ok.mem
  grow := fun P0 P1 ρ σ H H' S w k ok => ok.grow S w k
theorem src_arg {a : Addr} {ns : List Int} : Src K O W (ns.map D.int) h.ws (Itl K a) (Hold K O h (.arg ns) (.ref a)) where
  go := fun P0 i ρ σ H S ok hi => by
    obtain ⟨p, e, t1⟩ := (ok.rep S).arg
    cases e
    exact walk_list.goes i H (by simpa using hi) t1
  stop := fun P0 ρ σ H S ok => by
    obtain ⟨p, e, t1⟩ := (ok.rep S).arg
    cases e
    have := walk_list.stops H t1
    simpa using this
  yld := fun P0 i ρ σ H x H' d S ok hd y => by
    obtain ⟨p, e, t1⟩ := (ok.rep S).arg
    cases e
    obtain ⟨e2, e3⟩ := walk_list.yields i H x H' (by have := (List.getElem?_eq_some_iff.mp hd).1; simpa using this) t1 y
    subst e2
    rw [List.getElem?_map] at e3 hd
    cases q : ns[i]? with
    | none => rw [q] at hd; cases hd
    | some n => rw [q] at hd e3; cases hd; cases e3; exact ⟨fun _ _ z => z, by unfold Rep; rfl⟩
  keep := fun P0 ρ σ H ρ' σ' H' S k w hw ok => ok.keep S k w hw
  mem := fun P0 ρ σ H ok => ok.mem
  grow := fun P0 P1 ρ σ H H' S w k ok => ok.grow S w k
theorem src_range {lo : Int} {n : Nat} : Src K O W ((List.range n).map fun i => D.int (lo + (i : Nat))) [] (Itr lo n) (fun _ _ _ _ => True) where
  go := fun P0 i ρ σ H S ok hi => by simpa [Itr] using hi
  stop := fun P0 ρ σ H S ok => by simp [Itr]
  yld := fun P0 i ρ σ H x H' d S ok hd y => by
    obtain ⟨e1, e2⟩ := y
    subst e1
    rw [List.getElem?_map] at hd
    cases q : (List.range n)[i]? with
    | none => rw [q] at hd; cases hd
    | some j =>
      rw [q] at hd; cases hd
      have : j = i := by
        obtain ⟨h1, h2⟩ := List.getElem?_eq_some_iff.mp q
        simpa using h2.symm
      subst this
      exact ⟨fun _ _ z => z, by unfold Rep; exact e2⟩
  keep := fun _ _ _ _ _ _ _ _ _ _ _ _ => trivial
  mem := fun _ _ _ _ _ w z => nomatch z
  grow := fun _ _ _ _ _ _ _ _ _ _ => trivial
theorem src_str {z : Str} : Src K O W (z.cps.toList.map fun c => D.str ⟨#[c]⟩) [] (Its z) (fun _ _ _ _ => True) where
  go := fun P0 i ρ σ H S ok hi => by simpa [Its] using hi
  stop := fun P0 ρ σ H S ok => by simp [Its]
  yld := fun P0 i ρ σ H x H' d S ok hd y => by
    obtain ⟨e1, c, e2, e3⟩ := y
    subst e1
    rw [List.getElem?_map, Array.getElem?_toList, e2] at hd
    cases hd
    exact ⟨fun _ _ z => z, by unfold Rep; exact e3⟩
  keep := fun _ _ _ _ _ _ _ _ _ _ _ _ => trivial
  mem := fun _ _ _ _ _ w z => nomatch z
  grow := fun _ _ _ _ _ _ _ _ _ _ => trivial
theorem Src.anyw {ds : List D} {J : It} {Ok : Pr → Env → St → Hp → Prop} (q : Src K O W ds [] J Ok) : Src K O W ds h.ws J (fun P0 ρ σ H => Ok P0 ρ σ H ∧ ∀ w ∈ h.ws, w ∈ O) where
  go := fun P0 i ρ σ H S ok => q.go P0 i ρ σ H S ok.1
  stop := fun P0 ρ σ H S ok => q.stop P0 ρ σ H S ok.1
  yld := fun P0 i ρ σ H x H' d S ok => q.yld P0 i ρ σ H x H' d S ok.1
  keep := fun P0 ρ σ H ρ' σ' H' S k w _ ok => ⟨q.keep P0 ρ σ H ρ' σ' H' S k w (fun _ z => nomatch z) ok.1, ok.2⟩
  mem := fun P0 ρ σ H ok => ok.2
  grow := fun P0 P1 ρ σ H H' S w k ok => ⟨q.grow P0 P1 ρ σ H H' S w k ok.1, ok.2⟩
end
section
variable {K : PySem.W.Frag} {O W : List Nat} {h h2 : Hd}
end
section
variable {X : Cx} {P0 : Pr} {O W : List Nat} {E : EK} {a b c e tg : Expr} {es : List Expr} {ma mb mc : EM} {ms : AM} {pos : Pos}
abbrev CI (X : Cx) (P0 : Pr) (O W : List Nat) (E : EK) (tg e : Expr) (m : IM) : Prop := PI X tg e (tMi X.K P0 O W E m)
/-- over a list, a tuple, a text, the script -/
def itD : D → R (List D)
  | .lst ds => .ok ds
  | .tup ds => .ok ds
  | .arg ns => .ok (ns.map D.int)
  | .str z => .ok (z.cps.toList.map fun c => D.str ⟨#[c]⟩)
  | .ftu ds => .ok ds
  | _ => .stk
def cIter (m : EM) : IM := fun ρ => do
  let (h, ρ1) ← m ρ
  let d ← (h.d ρ1).nox
  let ds ← (itD d).nox
  if szOk ds.length = true then pure ((ds, h.ws), ρ1) else .stk
theorem ci_any (ha : CEx X P0 O W E a ma) : CI X P0 O W E tg a (cIter ma) := PI.imp (PI.or (pi_list ha) (PI.or (pi_tup ha) (pi_str ha))) fun σ H _ ⟨ρ, S, h⟩ => by
  unfold cIter at h
  cases em : ma ρ with
  | er c ds =>
    rw [em] at h
    exact .inl ⟨ρ, S, by rw [em]; exact h⟩
  | stk => rw [em] at h; exact h.elim
  | ok p =>
    obtain ⟨h1, ρ1⟩ := p
    rw [em] at h
    obtain ⟨d, ed, h⟩ := Res.of_nox (show Res E W σ H ((h1.d ρ1).nox >>= _) _ from h)
    obtain ⟨ds, ei, h⟩ := h.of_nox
    by_cases c : szOk ds.length = true
    · rw [if_pos c] at h
      have hz := of_decide_eq_true c
      cases d <;> simp only [itD, R.ok.injEq, reduceCtorEq] at ei
      · subst ei
        refine .inr (.inr ⟨ρ, S, ?_⟩)
        rw [em]
        intro v H1 S1 k1 r1
        obtain rfl := (r1.d S1 ed).str
        exact ⟨_, rfl, h _ H1 _ S1 k1 src_str.anyw ⟨trivial, (r1.hold ed).mem⟩ hz⟩
      · subst ei
        refine .inr (.inl ⟨ρ, S, ?_⟩)
        rw [em]
        intro v H1 S1 k1 r1
        obtain ⟨p, vs, rfl, t1, t2⟩ := (r1.d S1 ed).tup
        exact ⟨p, rfl, ⟨vs, SqT.of t1⟩, h _ H1 _ S1 k1 src_tup (r1.hold ed) hz⟩
      · subst ei
        refine .inl ⟨ρ, S, ?_⟩
        rw [em]
        intro v H1 S1 k1 r1
        obtain ⟨p, vs, rfl, t1, t2⟩ := (r1.d S1 ed).lst
        exact ⟨p, rfl, ⟨vs, SqL.of t1⟩, h _ H1 _ S1 k1 src_list (r1.hold ed) hz⟩
      · subst ei
        refine .inl ⟨ρ, S, ?_⟩
        rw [em]
        intro v H1 S1 k1 r1
        obtain ⟨p, rfl, t1⟩ := (r1.d S1 ed).arg
        exact ⟨p, rfl, ⟨_, t1⟩, h _ H1 _ S1 k1 src_arg (r1.hold ed) hz⟩
      · subst ei
        refine .inr (.inl ⟨ρ, S, ?_⟩)
        rw [em]
        intro v H1 S1 k1 r1
        obtain ⟨p, vs, o, rfl, t1, _, t2⟩ := (r1.d S1 ed).ftu
        exact ⟨p, rfl, ⟨vs, SqT.fz t1⟩, h _ H1 _ S1 k1 src_ftu (r1.hold ed) hz⟩
    · rw [if_neg c] at h
      exact h.elim
def rngOk (i : Int) : Bool := decide (-(2 ^ 62) ≤ i ∧ i < 2 ^ 62)
def rng1D : List D → R (List D)
  | [.int j] => if rngOk j = true then .ok ((List.range j.toNat).map fun i => D.int (0 + (i : Nat))) else .stk
  | _ => .stk
def rng2D : List D → R (List D)
  | [.int i, .int j] => if (rngOk i && rngOk j) = true then .ok ((List.range (j - i).toNat).map fun k => D.int (i + (k : Nat))) else .stk
  | _ => .stk
def cRange (f : List D → R (List D)) (m : AM) : IM := fun ρ => do
  let (hs, ρ1) ← m ρ
  let ds ← (vsOf hs).nox
  let xs ← (f ds).nox
  if szOk xs.length = true then pure ((xs, []), ρ1) else .stk
theorem ci_range1 {p : Pos} (hm : X.mg "range" = none) (ha : CA X P0 O W E [a] ms) (hg : Gl X "range" := by rfl) (hs : starEach [a] X.env = [(false, eval a X.env)] := by rfl) : CI X P0 O W E tg (.Call (.Name "range" p) [a] [] pos) (cRange rng1D ms) := PI.imp (pi_range1 hg hm ha hs) fun σ H R ⟨ρ, S, h⟩ => by
  refine ⟨ρ, S, h.of_bind.mono fun ⟨hs, ρ1⟩ q vs H1 S1 k1 r1 => ?_⟩
  obtain ⟨ds, e1, q⟩ := q.of_nox
  obtain ⟨xs, e2, q⟩ := q.of_nox
  have rr := HdRs.vs r1 e1
  by_cases c : szOk xs.length = true
  · rw [if_pos c] at q
    unfold rng1D at e2
    split at e2
    · split at e2
      · rename_i j z; cases e2
        obtain ⟨v, ws, rfl, h1, h2⟩ := rr.cons_iff
        have h2 := h2.nil_iff
        subst h2
        unfold Rep at h1
        subst h1
        unfold rngOk at z
        have z := of_decide_eq_true z
        exact ⟨_, rfl, z.1, z.2, q _ H1 _ S1 k1 src_range trivial (of_decide_eq_true c)⟩
      · cases e2
    · cases e2
  · rw [if_neg c] at q
    exact q.elim
theorem ci_range2 {p : Pos} (hm : X.mg "range" = none) (ha : CA X P0 O W E [a, b] ms) (hg : Gl X "range" := by rfl) (hs : starEach [a, b] X.env = [(false, eval a X.env), (false, eval b X.env)] := by rfl) (hs2 : starEach [b] X.env = [(false, eval b X.env)] := by rfl) : CI X P0 O W E tg (.Call (.Name "range" p) [a, b] [] pos) (cRange rng2D ms) := PI.imp (pi_range2 hg hm ha hs hs2) fun σ H R ⟨ρ, S, h⟩ => by
  refine ⟨ρ, S, h.of_bind.mono fun ⟨hs, ρ1⟩ q vs H1 S1 k1 r1 => ?_⟩
  obtain ⟨ds, e1, q⟩ := q.of_nox
  obtain ⟨xs, e2, q⟩ := q.of_nox
  have rr := HdRs.vs r1 e1
  by_cases c : szOk xs.length = true
  · rw [if_pos c] at q
    unfold rng2D at e2
    split at e2
    · split at e2
      · rename_i i j z; cases e2
        obtain ⟨v, ws, rfl, h1, h2⟩ := rr.cons_iff
        obtain ⟨w, us, rfl, h3, h4⟩ := h2.cons_iff
        have h4 := h4.nil_iff
        subst h4
        unfold Rep at h1 h3
        subst h1
        subst h3
        rw [Bool.and_eq_true] at z
        unfold rngOk at z
        have z1 := of_decide_eq_true z.1
        have z2 := of_decide_eq_true z.2
        exact ⟨_, _, rfl, ⟨z1.1, z1.2, z2.1, z2.2⟩, q _ H1 _ S1 k1 src_range trivial (of_decide_eq_true c)⟩
      · cases e2
    · cases e2
  · rw [if_neg c] at q
    exact q.elim
end
end Y

set_option Elab.async false
set_option linter.all false
set_option maxRecDepth 100000
namespace Y
open PySem PySem.Spec PyProof.Rows L2

theorem OA_of {O : List Nat} {σ σ' : St} (h : ∀ i ∈ O, σ'[i]? = σ[i]?) (b : Addr) : OA O σ' b ↔ OA O σ b := by
  constructor
  · rintro ⟨i, hi, e⟩; exact ⟨i, hi, (h i hi).symm.trans e⟩
  · rintro ⟨i, hi, e⟩; exact ⟨i, hi, (h i hi).trans e⟩
section
variable {K : PySem.W.Frag} {P0 P1 : Pr} {O W : List Nat} {ρ ρ' : Env} {σ σ' : St} {H H' : Hp} {d : D} {v : V}
theorem FA_of (h : ∀ i ∈ O, σ'[i]? = σ[i]?) (b : Addr) : FA P0 O σ' b ↔ FA P0 O σ b := or_congr Iff.rfl (OA_of h b)
/-- other slots, less known -/
theorem Sim.move (S : Sim K P0 O W ρ σ H) (hl : ρ'.length ≤ σ'.length) (ho : ∀ i ∈ O, σ'[i]? = σ[i]?) (hρ : ∀ i ∈ O, ∀ d, ρ'[i]? = some (some d) → ρ[i]? = some (some d))
    (hv : ∀ (i : Nat) d, ρ'[i]? = some (some d) → i ∉ O → ∃ v, σ'[i]? = some (some v) ∧ Rep K H d (FA P0 O σ) v) : Sim K P0 O W ρ' σ' H where
  sub := S.sub
  len := hl
  dom := fun b z => S.dom b ((FA_of ho b).mp z)
  val := fun i d e n => by
    obtain ⟨v, h1, h2⟩ := hv i d e n
    exact ⟨v, h1, h2.less S.dom fun b z => (FA_of ho b).mp z⟩
  own := fun i d e n => by
    obtain ⟨v, h1, h2⟩ := S.own i d (hρ i n d e) n
    refine ⟨v, (ho i n).trans h1, ?_⟩
    have fa : ∀ b, FA P0 O σ' b → FA P0 O σ b := fun b z => (FA_of ho b).mp z
    cases d with
    | lst ds => obtain ⟨a, vs, rfl, ht, hr⟩ := h2; exact ⟨a, vs, rfl, ht, hr.less S.dom fa⟩
    | dik ks ds => obtain ⟨a, vs, rfl, hl, ht, hr⟩ := h2; exact ⟨a, vs, rfl, hl, ht, hr.less S.dom fa⟩
    | dit ks ds => obtain ⟨a, vs, rfl, hl, ht, hr⟩ := h2; exact ⟨a, vs, rfl, hl, ht, hr.less S.dom fa⟩
    | non => exact h2
    | bl _ => exact h2
    | int _ => exact h2
    | str _ => exact h2
    | tup _ => exact h2
    | arg _ => exact h2
    | ftu _ => exact h2
    | tab p q => exact h2
  sep := fun i j a hi hj e1 e2 => S.sep i j a hi hj ((ho i hi).symm.trans e1) ((ho j hj).symm.trans e2)
  sep0 := fun a z => S.sep0 a ((OA_of ho a).mp z)
theorem Sim.set (S : Sim K P0 O W ρ σ H) {i : Nat} (hi : i ∉ O) (r : Rep K H d (FA P0 O σ) v) : Sim K P0 O W (ρ.set i (some d)) (σ.set i (some v)) H := by
  refine S.move (by simpa using S.len) (fun j hj => ?_) (fun j hj d' e => ?_) fun j d' e n => ?_
  · exact List.getElem?_set_ne (fun (e : i = j) => hi (by rw [e]; exact hj))
  · rwa [List.getElem?_set_ne (fun (e : i = j) => hi (by rw [e]; exact hj))] at e
  · by_cases hj : i = j
    · subst hj
      have h1 : i < ρ.length := by
        have := (List.getElem?_eq_some_iff.mp e).1
        simpa using this
      rw [List.getElem?_set_self h1] at e
      cases e
      exact ⟨v, List.getElem?_set_self (Nat.lt_of_lt_of_le h1 S.len), r⟩
    · rw [List.getElem?_set_ne hj] at e ⊢
      exact S.val j d' e n
/-- forgetting -/
def wipeE (ρ : Env) : List Nat → Env
  | [] => ρ
  | i :: is => (wipeE ρ is).set i none
theorem wipeE_length (ρ : Env) : ∀ is, (wipeE ρ is).length = ρ.length
  | [] => rfl
  | i :: is => by unfold wipeE; rw [List.length_set, wipeE_length ρ is]
theorem wipeE_some : ∀ {is : List Nat} {j : Nat} {d : D}, (wipeE ρ is)[j]? = some (some d) → ρ[j]? = some (some d) ∧ j ∉ is
  | [], j, d, e => ⟨e, by simp⟩
  | i :: is, j, d, e => by
    unfold wipeE at e
    by_cases hj : i = j
    · subst hj
      by_cases hl : i < (wipeE ρ is).length
      · rw [List.getElem?_set_self hl] at e; cases e
      · rw [List.getElem?_eq_none (by simpa using hl)] at e; cases e
    · rw [List.getElem?_set_ne hj] at e
      obtain ⟨h1, h2⟩ := wipeE_some e
      exact ⟨h1, by simp only [List.mem_cons, not_or]; exact ⟨fun z => hj z.symm, h2⟩⟩
theorem Sim.wipe (S : Sim K P0 O W ρ σ H) (is : List Nat) : Sim K P0 O W (wipeE ρ is) σ H :=
  S.move (by rw [wipeE_length]; exact S.len) (fun _ _ => rfl) (fun i _ d e => (wipeE_some e).1) fun i d e n => S.val i d (wipeE_some e).1 n
theorem wipe_ne {is : List Nat} {j : Nat} (h : j ∉ is) : (L2.wipe σ is)[j]? = σ[j]? := wipe_out h
/-- a comprehension's own names -/
theorem Sim.wipe2 (S : Sim K P0 O W ρ σ H) {is : List Nat} (h : ∀ i ∈ is, i ∉ O) : Sim K P0 O W (wipeE ρ is) (L2.wipe σ is) H := by
  refine S.move (by rw [wipeE_length, L2.wipe_length]; exact S.len) (fun i hi => wipe_ne fun z => h i z hi) (fun i _ d e => (wipeE_some e).1) fun i d e n => ?_
  obtain ⟨e1, e2⟩ := wipeE_some e
  rw [wipe_ne e2]
  exact S.val i d e1 n
/-- back from the block: the wiped slots are not told -/
theorem Sim.out {is : List Nat} (S : Sim K P0 O W ρ (L2.wipe σ is) H) (h : ∀ i ∈ is, i ∉ O) (hρ : ∀ i ∈ is, ∀ d, ρ[i]? ≠ some (some d)) : Sim K P0 O W ρ σ H := by
  refine S.move (by have := S.len; rwa [L2.wipe_length] at this) (fun i hi => (wipe_ne fun z => h i z hi).symm) (fun i _ d e => e) fun i d e n => ?_
  obtain ⟨v, h1, h2⟩ := S.val i d e n
  rw [wipe_ne fun z => hρ i z d e] at h1
  exact ⟨v, h1, h2⟩
/-- one more object is forbidden -/
theorem Sim.more (S : Sim K P0 O W ρ σ H) {q : Addr} {vs : List V} (hq : H q = none) : Sim K (fun b => P0 b ∨ b = q) O W ρ σ (upd H q (.lst vs)) := by
  have S' := S.same (Same.new (o := .lst vs) hq)
  have fa : ∀ b, FA (fun b => P0 b ∨ b = q) O σ b → FA P0 O σ b ∨ H b = none := fun b z => by
    rcases z with (z | z) | z
    · exact .inl (.inl z)
    · rw [z]; exact .inr hq
    · exact .inl (.inr z)
  refine ⟨S.sub, S.len, fun b z => ?_, fun i d e n => ?_, fun i d e n => ?_, S.sep, fun a z => ?_⟩
  · rcases z with (z | z) | z
    · exact S'.dom b (.inl z)
    · rw [z, upd_same]; trivial
    · exact S'.dom b (.inr z)
  · obtain ⟨v, h1, h2⟩ := S.val i d e n
    exact ⟨v, h1, h2.mono d S.dom (fun b o e _ => Same.new hq b o e) fa⟩
  · obtain ⟨v, h1, h2⟩ := S.own i d e n
    refine ⟨v, h1, ?_⟩
    cases d with
    | lst ds => obtain ⟨a, vs, rfl, ht, hr⟩ := h2; exact ⟨a, vs, rfl, Same.new hq _ _ ht, hr.mono ds S.dom (fun b o e _ => Same.new hq b o e) fa⟩
    | dik ks ds => obtain ⟨a, vs, rfl, hl, ht, hr⟩ := h2; exact ⟨a, vs, rfl, hl, Same.new hq _ _ ht, hr.mono ds S.dom (fun b o e _ => Same.new hq b o e) fa⟩
    | dit ks ds => obtain ⟨a, vs, rfl, hl, ht, hr⟩ := h2; exact ⟨a, vs, rfl, hl, Same.new hq _ _ ht, hr.mono ds S.dom (fun b o e _ => Same.new hq b o e) fa⟩
    | non => exact h2
    | bl _ => exact h2
    | int _ => exact h2
    | str _ => exact h2
    | tup _ => exact h2
    | arg _ => exact h2
    | ftu _ => exact h2
    | tab p q => obtain ⟨a, rfl, ht⟩ := h2; exact ⟨a, rfl, ht.ext (Same.new hq)⟩
  · rintro (y | y)
    · exact S.sep0 a z y
    · subst y
      exact (S.dom a (.inr z)).some hq
theorem Sim.lessP (S : Sim K P1 O W ρ σ H) (h : ∀ b, P0 b → P1 b) : Sim K P0 O W ρ σ H := by
  have fa : ∀ b, FA P0 O σ b → FA P1 O σ b := fun b z => z.imp (h b) id
  refine ⟨S.sub, S.len, fun b z => S.dom b (fa b z), fun i d e n => ?_, fun i d e n => ?_, S.sep, fun a z y => S.sep0 a z (h a y)⟩
  · obtain ⟨v, h1, h2⟩ := S.val i d e n
    exact ⟨v, h1, h2.less S.dom fa⟩
  · obtain ⟨v, h1, h2⟩ := S.own i d e n
    refine ⟨v, h1, ?_⟩
    cases d with
    | lst ds => obtain ⟨a, vs, rfl, ht, hr⟩ := h2; exact ⟨a, vs, rfl, ht, hr.less S.dom fa⟩
    | dik ks ds => obtain ⟨a, vs, rfl, hl, ht, hr⟩ := h2; exact ⟨a, vs, rfl, hl, ht, hr.less S.dom fa⟩
    | dit ks ds => obtain ⟨a, vs, rfl, hl, ht, hr⟩ := h2; exact ⟨a, vs, rfl, hl, ht, hr.less S.dom fa⟩
    | non => exact h2
    | bl _ => exact h2
    | int _ => exact h2
    | str _ => exact h2
    | tup _ => exact h2
    | arg _ => exact h2
    | ftu _ => exact h2
    | tab p q => exact h2
/-- a forbidden object is written -/
theorem Sim.wr (S : Sim K P0 O W ρ σ H) {q : Addr} {o : HO} (hq : P0 q) (ho : isMut (some o)) : Sim K P0 O W ρ σ (upd H q o) := by
  have k : ∀ b u, H b = some u → ¬ FA P0 O σ b → upd H q o b = some u := fun b u e n => by rw [upd_ne fun (z : b = q) => n (.inl (by rw [z]; exact hq))]; exact e
  have ne : ∀ {i a}, i ∈ O → σ[i]? = some (some (V.ref a)) → a ≠ q := fun {i a} hi e z => S.sep0 a ⟨i, hi, e⟩ (by rw [z]; exact hq)
  refine ⟨S.sub, S.len, fun b z => ?_, fun i d e n => ?_, fun i d e n => ?_, S.sep, S.sep0⟩
  · by_cases hb : b = q
    · rw [hb, upd_same]; exact ho
    · rw [upd_ne hb]; exact S.dom b z
  · obtain ⟨v, h1, h2⟩ := S.val i d e n
    exact ⟨v, h1, h2.of_same S.dom k⟩
  · obtain ⟨v, h1, h2⟩ := S.own i d e n
    refine ⟨v, h1, ?_⟩
    cases d with
    | lst ds => obtain ⟨a, vs, rfl, ht, hr⟩ := h2; exact ⟨a, vs, rfl, by rw [upd_ne (ne n h1)]; exact ht, hr.mono ds S.dom k fun _ z => .inl z⟩
    | dik ks ds => obtain ⟨a, vs, rfl, hl, ht, hr⟩ := h2; exact ⟨a, vs, rfl, hl, by rw [upd_ne (ne n h1)]; exact ht, hr.mono ds S.dom k fun _ z => .inl z⟩
    | dit ks ds => obtain ⟨a, vs, rfl, hl, ht, hr⟩ := h2; exact ⟨a, vs, rfl, hl, by rw [upd_ne (ne n h1)]; exact ht, hr.mono ds S.dom k fun _ z => .inl z⟩
    | non => exact h2
    | bl _ => exact h2
    | int _ => exact h2
    | str _ => exact h2
    | tup _ => exact h2
    | arg _ => exact h2
    | ftu _ => exact h2
    | tab p q => obtain ⟨a, rfl, ht⟩ := h2; exact ⟨a, rfl, TabS.mono S.dom k (fun o e => by rw [upd_ne (ne n h1)]; exact e) ht⟩
end

def setAll (ρ : Env) : List Nat → List D → Env
  | i :: is, d :: ds => setAll (ρ.set i (some d)) is ds
  | _, _ => ρ
abbrev GM := D → Env → R Env
def tmName (i : Nat) : GM := fun d ρ => .ok (ρ.set i (some d))
def tmTup (is : List Nat) : GM := fun d ρ => match d with
  | .tup ds => if ds.length = is.length then .ok (setAll ρ is ds) else .stk
  | _ => .stk
def tG (K : PySem.W.Frag) (P0 : Pr) (O W : List Nat) (tm : GM) (is : List Nat) : TG := fun v σ H Q => ∃ ρ d ρ', Sim K P0 O W ρ σ H ∧ Rep K H d (FA P0 O σ) v ∧ tm d ρ = .ok ρ' ∧
  ∀ σ', Sim K P0 O W ρ' σ' H → σ'.length = σ.length → (∀ j, j ∉ is → σ'[j]? = σ[j]?) → Q σ' H
theorem PG.imp {X : Cx} {e : Expr} {t t' : TG} (h : PG X e t) (i : ∀ v σ H Q, t' v σ H Q → t v σ H Q) : PG X e t' := by
  cases h with
  | mk h => exact ⟨fun pins s σ H v u Q I r q => h pins s σ H v u Q I r (i v σ H Q q)⟩
section
variable {X : Cx} {P0 : Pr} {O W : List Nat} {pos : Pos}
abbrev CG (X : Cx) (P0 : Pr) (O W : List Nat) (tg : Expr) (tm : GM) (is : List Nat) : Prop := PG X tg (tG X.K P0 O W tm is)
theorem cg_name (i : Nat) {x : Str} (hN : X.N.Nodup) (ho : i ∉ O := by decide) (hi : X.N[i]? = some x := by rfl) (hx : Loc X.env.scope x := by first | exact Or.inl rfl | exact Or.inr rfl) (hf : X.fn x = true ∨ X.env.scope.names.lookup x = some .local := by first | exact .inl rfl | exact .inr rfl) : CG X P0 O W (.Name x pos) (tmName i) [i] :=
  PG.imp (pg_name hN hi hx hf) fun v σ H Q ⟨ρ, d, ρ', S, r, e, q⟩ => by
    cases e
    exact q _ (S.set ho r) (by simp) fun j hj => List.getElem?_set_ne fun z => hj (by simp [z])
def gNames : List Nat → TGs
  | [] => gNil
  | i :: is => gCons (gName i) (gNames is)
theorem names_ok {K : PySem.W.Frag} {H : Hp} {Q : St → Hp → Prop} : ∀ {is : List Nat} {ds : List D} {vs : List V} {ρ : Env} {σ : St}, (∀ i ∈ is, i ∉ O) → ds.length = is.length → Sim K P0 O W ρ σ H → Reps K H ds (FA P0 O σ) vs →
    (∀ σ', Sim K P0 O W (setAll ρ is ds) σ' H → σ'.length = σ.length → (∀ j, j ∉ is → σ'[j]? = σ[j]?) → Q σ' H) → gNames is vs σ H Q
  | [], [], vs, ρ, σ, _, _, S, r, q => ⟨r.nil_iff, q σ S rfl fun _ _ => rfl⟩
  | [], _ :: _, _, _, _, _, hl, _, _, _ => by simp at hl
  | _ :: _, [], _, _, _, _, hl, _, _, _ => by simp at hl
  | i :: is, d :: ds, vs, ρ, σ, ho, hl, S, r, q => by
    obtain ⟨v, ws, rfl, r1, r2⟩ := r.cons_iff
    have hi : i ∉ O := ho i (by simp)
    have S1 := S.set hi r1
    have fa : ∀ j ∈ O, (σ.set i (some v))[j]? = σ[j]? := fun j hj => List.getElem?_set_ne fun (z : i = j) => hi (by rw [z]; exact hj)
    refine ⟨v, ws, rfl, names_ok (fun j hj => ho j (by simp [hj])) (by simpa using hl) S1 (r2.less S.dom fun b z => (FA_of fa b).mp z) fun σ' S' h1 h2 => ?_⟩
    exact q σ' S' (by rw [h1]; simp) fun j hj => by
      rw [h2 j fun z => hj (by simp [z])]
      exact List.getElem?_set_ne fun z => hj (by simp [z])
theorem cg_tup {es : List Expr} {k : Nat} (is : List Nat) (hc : X.calm = true) (h : PGs X es (gNames is)) (ho : ∀ i ∈ is, i ∉ O := by decide) (hst : (assignEach es X.env).findIdx? (·.1) = none := by rfl) (hn : (assignEach es X.env).length = is.length := by rfl) : CG X P0 O W (.Tuple es k pos) (tmTup is) is :=
  PG.imp (pg_tup hc h hn hst) fun v σ H Q ⟨ρ, d, ρ', S, r, e, q⟩ => by
    unfold tmTup at e
    split at e
    · split at e
      · rename_i hl; cases e
        unfold Rep at r
        obtain ⟨a, vs, rfl, h1, h2⟩ := r
        exact ⟨a, vs, rfl, SqT.of h1, by rw [h2.length, hl], names_ok ho hl S h2 q⟩
      · cases e
    · cases e
theorem cgs_nil : PGs X [] (gNames []) := pgs_nil
theorem cgs_cons {es : List Expr} {is : List Nat} (i : Nat) {x : Str} {p : Pos} (hN : X.N.Nodup) (h2 : PGs X es (gNames is)) (hi : X.N[i]? = some x := by rfl) (hx : Loc X.env.scope x := by first | exact Or.inl rfl | exact Or.inr rfl) (hf : X.fn x = true ∨ X.env.scope.names.lookup x = some .local := by first | exact .inl rfl | exact .inr rfl) :
    PGs X (.Name x p :: es) (gNames (i :: is)) := pgs_cons (pg_name hN hi hx hf) h2
end

open Classical in
/-- the slots that are read from stay -/
noncomputable def chk (ws : List Nat) (ρ ρ' : Env) : R Unit := if ∀ w ∈ ws, ρ'[w]? = ρ[w]? then .ok () else .stk
@[simp] theorem chk_nil {ρ ρ' : Env} : chk [] ρ ρ' = .ok () := by unfold chk; rw [if_pos]; intro w hw; cases hw
theorem chk_ok {ws : List Nat} {ρ ρ' : Env} (h : chk ws ρ ρ' = .ok ()) : ∀ w ∈ ws, ρ'[w]? = ρ[w]? := by
  unfold chk at h
  split at h
  · assumption
  · cases h
noncomputable def cCompL (tm : GM) (t : BM) (e : EM) (vs ws : List Nat) : List D → Env → R (List D × Env)
  | [], ρ => .ok ([], ρ)
  | x :: xs, ρ => do
    let ρ1 ← tm x ρ
    let (k, ρ2) ← t ρ1
    if k = true then do
      let (h, ρ3) ← e ρ2
      let d ← h.v
      let _ ← chk ws ρ (wipeE ρ3 vs)
      let (ys, ρ5) ← cCompL tm t e vs ws xs (wipeE ρ3 vs)
      pure (d :: ys, ρ5)
    else do
      let _ ← chk ws ρ (wipeE ρ2 vs)
      cCompL tm t e vs ws xs (wipeE ρ2 vs)
noncomputable def cComp (im : IM) (tm : GM) (t : BM) (e : EM) (vs : List Nat) : EM := fun ρ => do
  let ((ds, ws), ρ1) ← im ρ
  let (ys, ρ2) ← (cCompL tm t e vs ws ds (wipeE ρ1 vs)).nox
  pure (.fr (.lst ys), ρ2)
def cYes : BM := fun ρ => .ok (true, ρ)
abbrev E00 : EK := fun _ _ _ => False
/-- one turn -/
inductive CStep (tm : GM) (t : BM) (e : EM) (vs ws : List Nat) (x : D) (xs : List D) (ρ : Env) (ys : List D) (ρf : Env) : Prop where
  | yes (ρ1 ρ2 ρ3 : Env) (h : Hd) (d : D) (ys' : List D) (e1 : tm x ρ = .ok ρ1) (e2 : t ρ1 = .ok (true, ρ2)) (e3 : e ρ2 = .ok (h, ρ3)) (e4 : h.v = .ok d) (e5 : chk ws ρ (wipeE ρ3 vs) = .ok ()) (e6 : cCompL tm t e vs ws xs (wipeE ρ3 vs) = .ok (ys', ρf)) (e7 : ys = d :: ys')
  | no (ρ1 ρ2 : Env) (e1 : tm x ρ = .ok ρ1) (e2 : t ρ1 = .ok (false, ρ2)) (e5 : chk ws ρ (wipeE ρ2 vs) = .ok ()) (e6 : cCompL tm t e vs ws xs (wipeE ρ2 vs) = .ok (ys, ρf))
theorem cComp_step {tm : GM} {t : BM} {e : EM} {vs ws : List Nat} {x : D} {xs : List D} {ρ : Env} {ys : List D} {ρf : Env} (h : cCompL tm t e vs ws (x :: xs) ρ = .ok (ys, ρf)) : CStep tm t e vs ws x xs ρ ys ρf := by
  unfold cCompL at h
  obtain ⟨ρ1, e1, h⟩ := R.ok_of h
  obtain ⟨⟨k, ρ2⟩, e2, h⟩ := R.ok_of h
  cases k with
  | true =>
    have h : (e ρ2 >>= _) = R.ok (ys, ρf) := h
    obtain ⟨⟨hd, ρ3⟩, e3, h⟩ := R.ok_of h
    obtain ⟨d, e4, h⟩ := R.ok_of h
    obtain ⟨_, e5, h⟩ := R.ok_of h
    obtain ⟨⟨ys', ρ5⟩, e6, h⟩ := R.ok_of h
    cases h
    exact .yes ρ1 ρ2 ρ3 hd d ys' e1 e2 e3 e4 e5 e6 rfl
  | false =>
    have h : (chk ws ρ (wipeE ρ2 vs) >>= _) = R.ok (ys, ρf) := h
    obtain ⟨_, e5, h⟩ := R.ok_of h
    exact .no ρ1 ρ2 e1 e2 e5 h
end Y

set_option Elab.async false
set_option linter.all false
set_option maxRecDepth 100000
namespace Y
open PySem PySem.Spec PyProof.Rows L2

theorem wipe_same {σ σ' : St} {vs : List Nat} (hl : σ'.length = σ.length) (h : ∀ j, j ∉ vs → σ'[j]? = σ[j]?) : L2.wipe σ' vs = L2.wipe σ vs := by
  apply List.ext_getElem?
  intro j
  by_cases hj : j ∈ vs
  · have q : ∀ (τ : St), (L2.wipe τ vs)[j]? = if j < τ.length then some none else none := fun τ => by
      have hlen := L2.wipe_length τ vs
      cases e : (L2.wipe τ vs)[j]? with
      | none =>
        rw [List.getElem?_eq_none_iff] at e
        rw [if_neg (by omega)]
      | some o =>
        have := (List.getElem?_eq_some_iff.mp e).1
        rw [if_pos (by omega)]
        cases o with
        | none => rfl
        | some v => exact absurd hj (wipe_some e).2
    rw [q, q, hl]
  · rw [wipe_ne hj, wipe_ne hj, h j hj]
theorem wipe_idem {σ : St} {vs : List Nat} : L2.wipe (L2.wipe σ vs) vs = L2.wipe σ vs := wipe_same (L2.wipe_length σ vs) fun j hj => wipe_ne hj
theorem wipeE_none {ρ : Env} {vs : List Nat} : ∀ i ∈ vs, ∀ d, (wipeE ρ vs)[i]? ≠ some (some d) := fun i hi d e => (wipeE_some e).2 hi
section
variable {X : Cx} {P0 : Pr} {O W : List Nat} {E : EK} {a b c e tg : Expr} {es : List Expr} {ma mb mc : EM} {ms : AM} {pos : Pos}
theorem PE.ex {e : Expr} {m : EM} (h : ∀ P0, CEx X P0 O W E e m) : PE X e (fun σ H Q => ∃ P0, tM X.K P0 O W E m σ H Q) := ⟨fun pins s σ H Q I ⟨P0, q⟩ => (h P0).run pins s σ H Q I q⟩
theorem PT.ex {e : Expr} {m : BM} (h : ∀ P0, CT X P0 O W E e m) : PT X e (fun σ H Q => ∃ P0, tMt X.K P0 O W E m σ H Q) := ⟨fun pins s σ H Q I ⟨P0, q⟩ => (h P0).run pins s σ H Q I q⟩
theorem PG.ex {e : Expr} {m : GM} {is : List Nat} (h : ∀ P0, CG X P0 O W e m is) : PG X e (fun v σ H Q => ∃ P0, tG X.K P0 O W m is v σ H Q) := by
  refine ⟨fun pins s σ H v u Q I r ⟨P0, q⟩ => ?_⟩
  cases h P0 with
  | mk h => exact h pins s σ H v u Q I r q
/-- the tests of a comprehension -/
abbrev CTs (X : Cx) (O W : List Nat) (E : EK) (ifs : List Expr) (m : BM) : Prop := PTs X ifs (fun σ H Q => ∃ P0, tMt X.K P0 O W E m σ H Q)
theorem cts_nil : CTs X O W E [] cYes := by
  cases (pts_nil (X := X)) with
  | mk h => exact ⟨fun pins s σ H Q I ⟨P0, ρ, S, q⟩ => h pins s σ H Q I (q H S .refl)⟩
theorem cts_one {m : BM} (h : ∀ P0, CT X P0 O W E c m) : CTs X O W E [c] m := pts_one (PT.ex h)
theorem comp_core {K : PySem.W.Frag} {im : IM} {tm : GM} {t : BM} {me : EM} {is vs : List Nat} (hv : ∀ i ∈ is, i ∈ vs) (ho : ∀ i ∈ vs, i ∉ O) (σ : St) (H : Hp) (Q : VK) (h : tM K P0 O W E (cComp im tm t me vs) σ H Q) :
    tLc (tMi K P0 O W E im) (fun v σ H Q => ∃ P0, tG K P0 O W tm is v σ H Q) (fun σ H Q => ∃ P0, tMt K P0 O W E00 t σ H Q) (fun σ H Q => ∃ P0, tM K P0 O W E00 me σ H Q) vs σ H Q := by
  obtain ⟨ρ, S, h⟩ := h
  refine ⟨ρ, S, h.of_bind.mono fun ⟨⟨ds, ws⟩, ρ1⟩ q J H1 Ok S1 k1 src ok hz Dn hD => ?_⟩
  obtain ⟨⟨ys, ρf⟩, er, q⟩ := q.of_nox
  have src : Src K O W ds ws J Ok := src
  have hz : ds.length ≤ sizeLine := hz
  generalize hP : (fun b => P0 b ∨ b = Dn : Pr) = P1
  have pD : P1 Dn := by subst hP; exact .inr rfl
  have pI : ∀ b, P0 b → P1 b := by subst hP; exact fun b z => .inl z
  have pO : ∀ b, P1 b → P0 b ∨ b = Dn := by subst hP; exact fun b z => z
  have S2 : Sim K P1 O W ρ1 σ (upd H1 Dn (.lst [])) := by subst hP; exact S1.more hD
  have ok2 : Ok P1 ρ1 σ (upd H1 Dn (.lst [])) := src.grow P0 _ ρ1 σ H1 _ S1 (fun b z => (pO b z).elim .inl fun z => .inr (by rw [z]; exact hD)) (Same.new hD) ok
  have wO : ∀ w ∈ ws, w ∉ vs := fun w hw z => ho w z (src.mem _ _ _ _ ok w hw)
  have sO : ∀ i ∈ O, (L2.wipe σ vs)[i]? = σ[i]? := fun i hi => wipe_ne fun y => ho i y hi
  have S3 : Sim K P1 O W (wipeE ρ1 vs) (L2.wipe σ vs) (upd H1 Dn (.lst [])) := S2.wipe2 ho
  have nD : ¬ OA O (L2.wipe σ vs) Dn := fun z => (S1.dom Dn (.inr ((OA_of sO Dn).mp z))).some hD
  have ok3 : Ok P1 (wipeE ρ1 vs) (L2.wipe σ vs) (upd H1 Dn (.lst [])) := src.keep P1 ρ1 σ _ _ _ _ S2 (fun _ _ e _ => e) (fun b z => .inl ((FA_of sO b).mp z)) (fun w hw => ⟨wipe_ne (wO w hw), by
    cases e : (wipeE ρ1 vs)[w]? with
    | none =>
      have : ρ1.length ≤ w := by rw [← wipeE_length ρ1 vs]; exact List.getElem?_eq_none_iff.mp e
      rw [List.getElem?_eq_none this]
    | some o =>
      have q2 : ∀ (is : List Nat), w ∉ is → (wipeE ρ1 is)[w]? = ρ1[w]? := fun is => by
        induction is with
        | nil => intro _; rfl
        | cons i is ih =>
          intro hn
          simp only [List.mem_cons, not_or] at hn
          unfold wipeE
          rw [List.getElem?_set_ne fun z => hn.1 z.symm]
          exact ih hn.2
      rw [← e, q2 vs (wO w hw)]⟩) ok2
  -- the invariant
  let I : Nat → Hp → Prop := fun i Hx => i ≤ ds.length ∧ ∃ (ρx : Env) (acc : List V) (yd rest : List D), Sim K P1 O W ρx (L2.wipe σ vs) Hx ∧ Ok P1 ρx (L2.wipe σ vs) Hx ∧ Hx Dn = some (.lst acc) ∧ Reps K Hx yd (FA P1 O (L2.wipe σ vs)) acc ∧ acc.length ≤ i ∧
    cCompL tm t me vs ws (ds.drop i) ρx = .ok (rest, ρf) ∧ ys = yd ++ rest ∧ (∀ b o, H1 b = some o → ¬ OA W σ b → Hx b = some o) ∧ (∀ b, H1 b ≠ none → Hx b ≠ none) ∧ (∀ j ∈ vs, ∀ d, ρx[j]? ≠ some (some d))
  refine ⟨fun i m Hx => m = ds.length - i ∧ I i Hx, ⟨ds.length, by simp, Nat.zero_le _, wipeE ρ1 vs, [], [], ys, S3, ok3, upd_same, Reps.nil, Nat.le_refl _, er, rfl, fun b o e _ => Same.new hD b o e, fun b e => Same.some (Same.new hD) b e, wipeE_none⟩, ?_⟩
  rintro i m Hx ⟨rfl, hi, ρx, acc, yd, rest, Sx, okx, hDx, hR, hacc, hC, hys, kx, sx, nx⟩
  by_cases hlt : i < ds.length
  · right
    refine ⟨src.go P1 i ρx _ Hx Sx okx hlt, I (i + 1), fun H' p' => ⟨ds.length - (i + 1), by omega, rfl, p'⟩, fun x' H' y => ?_⟩
    obtain ⟨sm, rx⟩ := src.yld P1 i ρx _ Hx x' H' ds[i] Sx okx (List.getElem?_eq_getElem hlt) y
    rw [List.drop_eq_getElem_cons hlt] at hC
    have back : ∀ {σ2 : St}, σ2.length = (L2.wipe σ vs).length → (∀ j, j ∉ is → σ2[j]? = (L2.wipe σ vs)[j]?) → L2.wipe σ2 vs = L2.wipe σ vs ∧ ∀ j ∈ O, σ2[j]? = (L2.wipe σ vs)[j]? := fun {σ2} h1 h2 =>
      ⟨(wipe_same h1 fun j hj => h2 j fun z => hj (hv j z)).trans wipe_idem, fun j hj => h2 j fun z => ho j (hv j z) hj⟩
    -- from the turn's end to the next turn
    have next : ∀ {σ2 : St} {ρ3 : Env} {H4 : Hp} {acc' : List V} {yd' rest' : List D}, σ2.length = (L2.wipe σ vs).length → (∀ j, j ∉ is → σ2[j]? = (L2.wipe σ vs)[j]?) → Sim K P1 O W ρ3 σ2 H4 → Keep W σ2 H' H4 →
        (∀ w ∈ ws, (wipeE ρ3 vs)[w]? = ρx[w]?) → Reps K H4 yd' (FA P1 O σ2) acc' → acc'.length ≤ i + 1 → cCompL tm t me vs ws (ds.drop (i + 1)) (wipeE ρ3 vs) = .ok (rest', ρf) → ys = yd' ++ rest' → I (i + 1) (upd H4 Dn (.lst acc')) := by
      intro σ2 ρ3 H4 acc' yd' rest' h1 h2 S4 k4 hw r' hl' hc' hy'
      obtain ⟨b1, b2⟩ := back h1 h2
      have nD2 : ¬ OA O σ2 Dn := fun z => nD ((OA_of b2 Dn).mp z)
      have S5 := S4.wipe2 (is := vs) ho
      rw [b1] at S5
      have S6 := S5.wr (o := .lst acc') pD trivial
      have kp : ∀ b o, Hx b = some o → ¬ FA P1 O (L2.wipe σ vs) b → upd H4 Dn (.lst acc') b = some o := fun b o e n => by
        rw [upd_ne fun z => n (.inl (by rw [z]; exact pD))]
        exact k4.keep b o (sm b o e) fun z => n (.inr ((OA_of b2 b).mp (S4.oaw z)))
      refine ⟨hlt, wipeE ρ3 vs, acc', yd', rest', S6, src.keep P1 ρx _ Hx _ _ _ Sx kp (fun b z => .inl z) (fun w hw' => ⟨rfl, hw w hw'⟩) okx, upd_same, ?_, hl', hc', hy', fun b o e n => ?_, fun b e => ?_, wipeE_none⟩
      · refine r'.mono yd' S4.dom (fun b o e n => ?_) fun b z => .inl ((FA_of b2 b).mpr z)
        rw [upd_ne fun z => n (.inl (by rw [z]; exact pD))]
        exact e
      · have hb : b ≠ Dn := ne_of_none e hD
        rw [upd_ne hb]
        exact k4.keep b o (sm b o (kx b o e n)) fun z => n ((OA_of (fun i hi => sO i (S1.sub i hi)) b).mp ((OA_of (fun i hi => b2 i (S1.sub i hi)) b).mp z))
      · by_cases hb : b = Dn
        · rw [hb, upd_same]; intro z; cases z
        · rw [upd_ne hb]
          exact k4.some b (Same.some sm b (sx b e))
    cases cComp_step hC with
    | yes ρa ρb ρc hd d ys' e1 e2 e3 e4 e5 e6 e7 =>
      refine ⟨P1, ρx, ds[i], ρa, Sx.same sm, rx, e1, fun σ2 Sa h1 h2 => ⟨(back h1 h2).1, P1, ρa, Sa, ?_⟩⟩
      rw [e2]
      intro H3 Sb k3
      refine (if_pos rfl).mpr ⟨P1, ρb, Sb, ?_⟩
      rw [e3]
      intro y' H4 Sc k4 r4
      have b2 := (back h1 h2).2
      have nD2 : ¬ OA O σ2 Dn := fun z => nD ((OA_of b2 Dn).mp z)
      have k34 : Keep W σ2 H' H4 := k3.trans k4
      refine ⟨acc, k34.keep _ _ (sm _ _ hDx) fun z => nD2 (Sc.oaw z), by omega, ?_⟩
      have r5 : Reps K H4 yd (FA P1 O σ2) acc := hR.mono yd Sx.dom (fun b o e n => k34.keep b o (sm b o e) fun z => n (.inr ((OA_of b2 b).mp (Sc.oaw z)))) fun b z => .inl ((FA_of b2 b).mp z)
      exact next h1 h2 Sc k34 (chk_ok e5) (r5.append (Reps.cons (r4.v e4) Reps.nil)) (by simp; omega) e6 (by rw [hys, e7]; simp)
    | no ρa ρb e1 e2 e5 e6 =>
      refine ⟨P1, ρx, ds[i], ρa, Sx.same sm, rx, e1, fun σ2 Sa h1 h2 => ⟨(back h1 h2).1, P1, ρa, Sa, ?_⟩⟩
      rw [e2]
      intro H3 Sb k3
      refine (if_neg Bool.false_ne_true).mpr ?_
      have b2 := (back h1 h2).2
      have nD2 : ¬ OA O σ2 Dn := fun z => nD ((OA_of b2 Dn).mp z)
      have r5 : Reps K H3 yd (FA P1 O σ2) acc := hR.mono yd Sx.dom (fun b o e n => k3.keep b o (sm b o e) fun z => n (.inr ((OA_of b2 b).mp (Sb.oaw z)))) fun b z => .inl ((FA_of b2 b).mp z)
      have hD3 : H3 Dn = some (.lst acc) := k3.keep _ _ (sm _ _ hDx) fun z => nD2 (Sb.oaw z)
      have fin := next h1 h2 Sb k3 (chk_ok e5) r5 (by omega) e6 hys
      have e : upd H3 Dn (.lst acc) = H3 := by
        funext b
        unfold upd
        split
        · rename_i z; rw [z, hD3]
        · rfl
      rw [e] at fin
      exact fin
  · left
    have ei : i = ds.length := by omega
    subst ei
    refine ⟨src.stop P1 ρx _ Hx Sx okx, ?_⟩
    rw [List.drop_length] at hC
    have hC : (R.ok (([] : List D), ρx)) = R.ok (rest, ρf) := hC
    cases hC
    rw [List.append_nil] at hys
    subst hys
    have kH : Keep W σ H1 Hx := ⟨kx, sx⟩
    refine q (.ref Dn) Hx ((Sx.lessP pI).out ho nx) (k1.trans kH) ⟨?_, fun _ a e => ?_⟩
    · unfold Rep
      refine ⟨Dn, acc, rfl, fun z => (S1.dom Dn z).some hD, hDx, hR.less Sx.dom fun b z => ?_⟩
      rcases z with z | z
      · exact (FA_of sO b).mpr (z.imp (pI b) id)
      · rw [z]; exact .inl pD
    · cases e
      exact Classical.byContradiction fun z => k1.some Dn z hD
theorem ce_comp {elt iter : Expr} {ifs : List Expr} {scope : Scope} {own : List (Str × Nat)} {im : IM} {tm : GM} {t : BM} {me : EM} {is : List Nat} (hc : X.calm = true) (hN : X.N.Nodup) (hi : CI X P0 O W E tg iter im) (ok : BlkOk X.N X.env.scope scope own)
    (hg : ∀ (P0 : Pr) (s : Shared) (H : Hp) (C : Addr) (cl : List (Str × Addr)) (fp : List Addr), CG (X.blk s H scope (compEnvC scope cl C X.env) fp) P0 O W tg tm is)
    (ht : ∀ (s : Shared) (H : Hp) (C : Addr) (cl : List (Str × Addr)) (fp : List Addr), CTs (X.blk s H scope (compEnvC scope cl C X.env) fp) O W E00 ifs t)
    (he : ∀ (P0 : Pr) (s : Shared) (H : Hp) (C : Addr) (cl : List (Str × Addr)) (fp : List Addr), CEx (X.blk s H scope (compEnvC scope cl C X.env) fp) P0 O W E00 elt me)
    (hv : ∀ i ∈ is, i ∈ own.map (·.2) := by decide) (ho : ∀ i ∈ own.map (·.2), i ∉ O := by decide) (hs : ∀ x, foldedSetIterable iter X.env x = pure x := by intro _; rfl) :
    CEx X P0 O W E (.ListComp elt [⟨tg, iter, ifs, 0⟩] scope pos) (cComp im tm t me (own.map (·.2))) :=
  PE.imp (pe_lc hc hN hi ok (fun s H C cl fp => PG.ex fun P0 => hg P0 s H C cl fp) ht (fun s H C cl fp => PE.ex fun P0 => he P0 s H C cl fp) hs) (comp_core hv ho)
end
end Y

set_option Elab.async false
set_option linter.all false
set_option maxRecDepth 100000
namespace Y
open PySem PySem.Spec PyProof.Rows L2

mutual
def D.nl : D → Bool
  | .non => true
  | .bl _ => true
  | .int _ => true
  | .str _ => true
  | .tup ds => nls ds
  | .ftu ds => nls ds
  | _ => false
def nls : List D → Bool
  | [] => true
  | d :: ds => d.nl && nls ds
end
/-- a list, a dict of such -/
def D.shallow : D → Bool
  | .lst ds => nls ds
  | .dik _ ds => nls ds
  | .dit _ ds => nls ds
  | .tab _ _ => true
  | d => d.nl
section
variable {K : PySem.W.Frag} {H : Hp}
mutual
theorem Rep.nl : ∀ {d : D} {P P' : Pr} {v : V}, d.nl = true → Rep K H d P v → Rep K H d P' v
  | .non, _, _, _, _, h => by unfold Rep at h ⊢; exact h
  | .bl _, _, _, _, _, h => by unfold Rep at h ⊢; exact h
  | .int _, _, _, _, _, h => by unfold Rep at h ⊢; exact h
  | .str _, _, _, _, _, h => by unfold Rep at h ⊢; exact h
  | .tup ds, P, P', v, n, h => by
    unfold Rep at h ⊢
    obtain ⟨a, vs, e, h1, h2⟩ := h
    exact ⟨a, vs, e, h1, Reps.nl (by unfold D.nl at n; exact n) h2⟩
  | .ftu ds, P, P', v, n, h => by
    unfold Rep at h ⊢
    obtain ⟨a, vs, o, e, h1, hd, h2⟩ := h
    exact ⟨a, vs, o, e, h1, hd, Reps.nl (by unfold D.nl at n; exact n) h2⟩
  | .tab _ _, _, _, _, n, _ => by simp [D.nl] at n
  | .lst _, _, _, _, n, _ => by simp [D.nl] at n
  | .arg _, _, _, _, n, _ => by simp [D.nl] at n
  | .dik _ _, _, _, _, n, _ => by simp [D.nl] at n
  | .dit _ _, _, _, _, n, _ => by simp [D.nl] at n
theorem Reps.nl : ∀ {ds : List D} {P P' : Pr} {vs : List V}, nls ds = true → Reps K H ds P vs → Reps K H ds P' vs
  | [], _, _, _, _, h => by rw [h.nil_iff]; exact Reps.nil
  | d :: ds, P, P', vs, n, h => by
    obtain ⟨v, ws, rfl, h1, h2⟩ := h.cons_iff
    unfold nls at n
    rw [Bool.and_eq_true] at n
    exact Reps.cons (Rep.nl n.1 h1) (Reps.nl n.2 h2)
end
theorem RepO.shallow {d : D} {P P' : Pr} {v : V} (n : d.shallow = true) (h : RepO K H d P v) : RepO K H d P' v := by
  cases d with
  | lst ds => obtain ⟨a, vs, e, h1, h2⟩ := h; exact ⟨a, vs, e, h1, h2.nl n⟩
  | dik ks ds => obtain ⟨a, vs, e, hl, h1, h2⟩ := h; exact ⟨a, vs, e, hl, h1, h2.nl n⟩
  | dit ks ds => obtain ⟨a, vs, e, hl, h1, h2⟩ := h; exact ⟨a, vs, e, hl, h1, h2.nl n⟩
  | non => exact h
  | bl _ => exact h
  | int _ => exact h
  | str _ => exact h
  | tup _ => exact h
  | arg _ => exact h
  | ftu _ => exact h
  | tab _ _ => exact h
theorem RepO.mono {H' : Hp} {d : D} {P P' : Pr} {v : V} (hm : ∀ b, P b → isMut (H b)) (k : ∀ b o, H b = some o → ¬ P b → H' b = some o) (hp : ∀ b, P' b → P b ∨ H b = none) (hk : ∀ a o, v = .ref a → H a = some o → H' a = some o) (h : RepO K H d P v) : RepO K H' d P' v := by
  cases d with
  | lst ds => obtain ⟨a, vs, e, h1, h2⟩ := h; exact ⟨a, vs, e, hk a _ e h1, h2.mono ds hm k hp⟩
  | dik ks ds => obtain ⟨a, vs, e, hl, h1, h2⟩ := h; exact ⟨a, vs, e, hl, hk a _ e h1, h2.mono ds hm k hp⟩
  | dit ks ds => obtain ⟨a, vs, e, hl, h1, h2⟩ := h; exact ⟨a, vs, e, hl, hk a _ e h1, h2.mono ds hm k hp⟩
  | non => exact h
  | bl _ => exact h
  | int _ => exact h
  | str _ => exact h
  | tup _ => exact h
  | arg _ => exact h
  | ftu _ => exact h
  | tab p q => obtain ⟨a, e, ht⟩ := h; exact ⟨a, e, TabS.mono hm k (fun o e2 => hk a o e e2) ht⟩
end
open Classical in
/-- what is known of the slots is what was known; or, of own slots, it holds no lists -/
noncomputable def chkO (O W : List Nat) (ρ ρ' : Env) : R Unit := if ∀ (j : Nat) d, ρ'[j]? = some (some d) → (ρ[j]? = some (some d) ∧ j ∉ W) ∨ (j ∈ O ∧ d.shallow = true) ∨ d.nl = true then .ok () else .stk
theorem chkO_ok {O W : List Nat} {ρ ρ' : Env} (h : chkO O W ρ ρ' = .ok ()) : ∀ (j : Nat) d, ρ'[j]? = some (some d) → (ρ[j]? = some (some d) ∧ j ∉ W) ∨ (j ∈ O ∧ d.shallow = true) ∨ d.nl = true := by
  unfold chkO at h
  split at h
  · assumption
  · cases h
@[simp] theorem chkO_same {O : List Nat} {ρ : Env} : chkO O [] ρ ρ = .ok () := by unfold chkO; rw [if_pos fun j d e => .inl ⟨e, by simp⟩]
/-- what an own slot may take -/
def D.ownable : D → Bool
  | .lst _ => true
  | .non => true
  | .bl _ => true
  | .int _ => true
  | .str _ => true
  | _ => false
section
variable {K : PySem.W.Frag} {P0 P1 : Pr} {O W : List Nat} {ρ ρ' : Env} {σ σ' : St} {H H' : Hp} {d : D} {v : V}
/-- an own slot's object is written -/
theorem Sim.ownW (S : Sim K P0 O W ρ σ H) {i : Nat} {a : Addr} {o : HO} (hi : i ∈ O) (ha : σ[i]? = some (some (.ref a))) (ho : isMut (some o)) (r : RepO K (upd H a o) d (FA P0 O σ) (.ref a)) : Sim K P0 O W (ρ.set i (some d)) σ (upd H a o) := by
  have pa : FA P0 O σ a := .inr ⟨i, hi, ha⟩
  have k : ∀ b u, H b = some u → ¬ FA P0 O σ b → upd H a o b = some u := fun b u e n => by rw [upd_ne fun z => n (by rw [z]; exact pa)]; exact e
  refine ⟨S.sub, by simpa using S.len, fun b z => ?_, fun j d' e n => ?_, fun j d' e n => ?_, S.sep, S.sep0⟩
  · by_cases hb : b = a
    · rw [hb, upd_same]; exact ho
    · rw [upd_ne hb]; exact S.dom b z
  · have hj : i ≠ j := fun (z : i = j) => n (by rw [← z]; exact hi)
    rw [List.getElem?_set_ne hj] at e
    obtain ⟨v, h1, h2⟩ := S.val j d' e n
    exact ⟨v, h1, h2.of_same S.dom k⟩
  · by_cases hj : i = j
    · subst hj
      have h1 : i < ρ.length := by have := (List.getElem?_eq_some_iff.mp e).1; simpa using this
      rw [List.getElem?_set_self h1] at e
      cases e
      exact ⟨_, ha, r⟩
    · rw [List.getElem?_set_ne hj] at e
      obtain ⟨v, h1, h2⟩ := S.own j d' e n
      refine ⟨v, h1, h2.mono S.dom k (fun _ z => .inl z) fun b u e1 e2 => ?_⟩
      subst e1
      rw [upd_ne fun (z : b = a) => hj (S.sep i j a hi n ha (by rw [← z]; exact h1))]
      exact e2
/-- a datum of an own slot, of a new object -/
theorem Rep.own (hm : ∀ b, FA P0 O σ b → isMut (H b)) (hd : d.ownable = true) (r : Rep K H d (FA P0 O σ) v) {P' : Pr} (hp : ∀ b, P' b → FA P0 O σ b ∨ v = .ref b) : RepO K H d P' v := by
  cases d with
  | lst ds =>
    unfold Rep at r
    obtain ⟨a, vs, rfl, h0, h1, h2⟩ := r
    exact ⟨a, vs, rfl, h1, h2.less (mutL hm h1) fun b z => (hp b z).imp id fun z => by cases z; rfl⟩
  | dik _ _ => cases hd
  | dit _ _ => cases hd
  | non => unfold Rep at r; exact r
  | bl _ => unfold Rep at r; exact r
  | int _ => unfold Rep at r; exact r
  | str _ => unfold Rep at r; exact r
  | tup _ => cases hd
  | arg _ => cases hd
  | ftu _ => cases hd
  | tab _ _ => cases hd
/-- an own slot gets a new object v. S0: the state ahead of its making -/
theorem Sim.setO (S0 : Sim K P0 O W ρ σ H) (S : Sim K P0 O W ρ' σ H') (k : Keep W σ H H') (c : ∀ (j : Nat) d, ρ'[j]? = some (some d) → (ρ[j]? = some (some d) ∧ j ∉ W) ∨ (j ∈ O ∧ d.shallow = true) ∨ d.nl = true) {i : Nat} (hi : i ∈ O)
    (new : ∀ a, v = .ref a → H a = none ∧ isMut (H' a)) (r : RepO K H' d (fun b => FA P0 O σ b ∨ v = .ref b) v) : Sim K P0 O W (ρ'.set i (some d)) (σ.set i (some v)) H' := by
  have gs : ∀ {j : Nat} {w : V}, (σ.set i (some v))[j]? = some (some w) → (j = i ∧ w = v) ∨ (j ≠ i ∧ σ[j]? = some (some w)) := fun {j w} e => by
    by_cases hj : i = j
    · subst hj
      have h1 : i < σ.length := by have := (List.getElem?_eq_some_iff.mp e).1; simpa using this
      rw [List.getElem?_set_self h1] at e
      cases e
      exact .inl ⟨rfl, rfl⟩
    · rw [List.getElem?_set_ne hj] at e
      exact .inr ⟨fun z => hj z.symm, e⟩
  have oa : ∀ b, OA O (σ.set i (some v)) b → v = .ref b ∨ OA O σ b := fun b ⟨j, hj, e⟩ => by
    rcases gs e with ⟨_, e2⟩ | ⟨_, e2⟩
    · exact .inl e2.symm
    · exact .inr ⟨j, hj, e2⟩
  have fa0 : ∀ b, FA P0 O (σ.set i (some v)) b → FA P0 O σ b ∨ H b = none := fun b z => by
    rcases z with z | z
    · exact .inl (.inl z)
    · rcases oa b z with z | z
      · exact .inr (new b z).1
      · exact .inl (.inr z)
  have kf : ∀ b o, H b = some o → ¬ FA P0 O σ b → H' b = some o := fun b o e n => k.keep b o e fun z => n (.inr (S.oaw z))
  -- the new object is not what an own slot held
  have apart : ∀ a, v = .ref a → ¬ FA P0 O σ a := fun a e z => (S0.dom a z).some (new a e).1
  refine ⟨S.sub, by simpa using S.len, fun b z => ?_, fun j d' e n => ?_, fun j d' e n => ?_, fun x y a hx hy e1 e2 => ?_, fun a z y => ?_⟩
  · rcases z with z | z
    · exact S.dom b (.inl z)
    · rcases oa b z with z | z
      · exact (new b z).2
      · exact S.dom b (.inr z)
  · have hj : i ≠ j := fun (z : i = j) => n (by rw [← z]; exact hi)
    rw [List.getElem?_set_ne hj] at e ⊢
    rcases c j d' e with ⟨e0, _⟩ | ⟨z, _⟩ | nl
    · obtain ⟨w, h1, h2⟩ := S0.val j d' e0 n
      exact ⟨w, h1, h2.mono d' S0.dom kf fa0⟩
    · exact absurd z n
    · obtain ⟨w, h1, h2⟩ := S.val j d' e n
      exact ⟨w, h1, h2.nl nl⟩
  · by_cases hj : i = j
    · subst hj
      have h1 : i < ρ'.length := by have := (List.getElem?_eq_some_iff.mp e).1; simpa using this
      rw [List.getElem?_set_self h1] at e
      cases e
      refine ⟨v, List.getElem?_set_self (Nat.lt_of_lt_of_le h1 S.len), ?_⟩
      have r' := r
      refine r'.mono (P := fun b => FA P0 O σ b ∨ v = .ref b) (fun b z => z.elim (S.dom b) fun z => (new b z).2) (fun _ _ e _ => e) (fun b z => ?_) fun _ _ _ e => e
      rcases z with z | z
      · exact .inl (.inl (.inl z))
      · exact .inl ((oa b z).elim .inr fun z => .inl (.inr z))
    · rw [List.getElem?_set_ne hj] at e ⊢
      rcases c j d' e with ⟨e0, hw⟩ | ⟨_, sh⟩ | nl
      · obtain ⟨w, h1, h2⟩ := S0.own j d' e0 n
        refine ⟨w, h1, h2.mono S0.dom kf fa0 fun a o e1 e2 => ?_⟩
        subst e1
        refine k.keep a o e2 fun ⟨x, hx, ex⟩ => ?_
        have := S0.sep x j a (S0.sub x hx) n ex h1
        exact hw (this ▸ hx)
      · obtain ⟨w, h1, h2⟩ := S.own j d' e n
        exact ⟨w, h1, h2.shallow sh⟩
      · obtain ⟨w, h1, h2⟩ := S.own j d' e n
        refine ⟨w, h1, ?_⟩
        cases d' <;> first | exact h2 | (simp [D.nl] at nl)
  · rcases gs e1 with ⟨f1, g1⟩ | ⟨f1, g1⟩
    · rcases gs e2 with ⟨f2, g2⟩ | ⟨f2, g2⟩
      · rw [f1, f2]
      · exact absurd (.inr ⟨y, hy, g2⟩) (apart a g1.symm)
    · rcases gs e2 with ⟨f2, g2⟩ | ⟨f2, g2⟩
      · exact absurd (.inr ⟨x, hx, g1⟩) (apart a g2.symm)
      · exact S.sep x y a hx hy g1 g2
  · rcases oa a z with z | z
    · exact apart a z (.inl y)
    · exact S.sep0 a z y
end

inductive Fl where
  | nx | bk | ct | rt (h : Hd)
abbrev SM := Env → R (Fl × Env)
def Fin (K : PySem.W.Frag) (P0 : Pr) (O : List Nat) (Hs : Hp) (D : Ends) (σ : St) (H : Hp) : Fl → Prop
  | .nx => D.nx σ H
  | .bk => D.bk σ H
  | .ct => D.ct σ H
  | .rt h => ∀ v, HdR K P0 O Hs σ H h v → D.rt v H
def tSt (K : PySem.W.Frag) (P0 : Pr) (O W U : List Nat) (E : EK) (m : SM) : TS := fun D σ H => ∃ ρ, Sim K P0 O W ρ σ H ∧
  Res E O σ H (m ρ) fun a => ∀ σ' H', Sim K P0 O W a.2 σ' H' → Tr O U σ H σ' H' → σ'.length = σ.length → Fin K P0 O H D σ' H' a.1
section
variable {E : EK} {O W U : List Nat} {σ σ1 : St} {H H1 : Hp} {α β : Type}
theorem Keep.up (hs : ∀ i ∈ W, i ∈ O) (k : Keep W σ H H1) : Keep O σ H H1 := ⟨fun b o e n => k.keep b o e fun ⟨i, hi, z⟩ => n ⟨i, hs i hi, z⟩, k.some⟩
theorem Res.down (hs : ∀ i ∈ W, i ∈ O) {r : R α} {k : α → Prop} (h : Res E O σ H r k) : Res E W σ H r k := by
  cases r with
  | ok a => exact h
  | er c ds => exact fun H' kp => h H' (kp.up hs)
  | stk => exact h
theorem Keep.afterT {H2 : Hp} (t : Tr O U σ H σ1 H1) (k : Keep O σ1 H1 H2) : Keep O σ H H2 where
  keep := fun b o e n => k.keep b o (t.keep b o e n) fun z => by
    rcases t.own b z with z | z
    · exact n z
    · rw [e] at z; cases z
  some := fun b e => k.some b (t.some b e)
theorem Res.keepT {r : R α} {k : α → Prop} (h : Res E O σ H r k) (t : Tr O U σ H σ1 H1) : Res E O σ1 H1 r k := by
  cases r with
  | ok a => exact h
  | er c ds => exact fun H' kp => h H' (kp.afterT t)
  | stk => exact h
end
section
variable {X : Cx} {P0 : Pr} {O W U : List Nat} {E : EK} {a b c e tg : Expr} {es : List Expr} {ma mb mc : EM} {ms : AM} {pos : Pos} {st : Stmt} {sts : List Stmt} {m n : SM}
abbrev CS (X : Cx) (P0 : Pr) (O W U : List Nat) (E : EK) (st : Stmt) (m : SM) : Prop := PS X st (tSt X.K P0 O W U E m)
abbrev CSs (X : Cx) (P0 : Pr) (O W U : List Nat) (E : EK) (sts : List Stmt) (m : SM) : Prop := PSs X sts (tSt X.K P0 O W U E m)
def sSkip : SM := fun ρ => .ok (.nx, ρ)
def sSeq (m n : SM) : SM := fun ρ => do
  let (f, ρ1) ← m ρ
  match f with
  | .nx => n ρ1
  | f => pure (f, ρ1)
theorem cs_nil : CSs X P0 O W U E [] sSkip := PSs.imp pss_nil fun D σ H ⟨ρ, S, h⟩ => h σ H S .refl rfl
theorem cs_one (h : CS X P0 O W U E st m) : CSs X P0 O W U E [st] m := pss_one h
theorem cs_cons (h : CS X P0 O W U E st m) (h2 : CSs X P0 O W U E sts n) : CSs X P0 O W U E (st :: sts) (sSeq m n) := PSs.imp (pss_cons h h2) fun D σ H ⟨ρ, S, h⟩ =>
  ⟨ρ, S, h.of_bind.mono fun ⟨f, ρ1⟩ q σ1 H1 S1 t1 l1 => by
    cases f with
    | nx =>
      refine ⟨ρ1, S1, (Res.keepT (show Res E O σ H (n ρ1) _ from q) t1).mono fun ⟨f2, ρ2⟩ q2 σ2 H2 S2 t2 l2 => ?_⟩
      have q3 := q2 σ2 H2 S2 (t1.trans t2) (l2.trans l1)
      cases f2 with
      | nx => exact q3
      | bk => exact q3
      | ct => exact q3
      | rt hd => exact fun v r => q3 v (r.back t1.some)
    | bk => exact q σ1 H1 S1 t1 l1
    | ct => exact q σ1 H1 S1 t1 l1
    | rt hd => exact q σ1 H1 S1 t1 l1⟩
def sRet (m : EM) : SM := fun ρ => do
  let (h, ρ1) ← m ρ
  pure (.rt h, ρ1)
theorem cs_ret (h : CEx X P0 O W E e ma) : CS X P0 O W U E (.Return (some e) pos) (sRet ma) := PS.imp (ps_ret h) fun D σ H ⟨ρ, S, h⟩ =>
  ⟨ρ, S, (h.of_bind.down S.sub).mono fun ⟨hd, ρ1⟩ q v H1 S1 k1 r1 => q σ H1 S1 (Tr.of S.sub k1) rfl v r1⟩
def sIf (t : BM) (m n : SM) : SM := fun ρ => do
  let (k, ρ1) ← t ρ
  if k = true then m ρ1 else n ρ1
theorem Fin.back {K : PySem.W.Frag} {Hs Hs' : Hp} {D : Ends} {σ : St} {H : Hp} {f : Fl} (k : ∀ b, Hs b ≠ none → Hs' b ≠ none) (h : Fin K P0 O Hs D σ H f) : Fin K P0 O Hs' D σ H f := by
  cases f with
  | rt hd => exact fun v r => h v (r.back k)
  | nx => exact h
  | bk => exact h
  | ct => exact h
theorem cs_if {t : BM} {xs ys : List Stmt} (hc : CT X P0 O W E c t) (h1 : CSs X P0 O W U E xs m) (h2 : CSs X P0 O W U E ys n) : CS X P0 O W U E (.If c xs ys pos) (sIf t m n) := PS.imp (ps_if hc h1 h2) fun D σ H ⟨ρ, S, h⟩ =>
  ⟨ρ, S, (h.of_bind.down S.sub).mono fun ⟨k, ρ1⟩ q H1 S1 k1 => by
    cases k with
    | true =>
      exact (if_pos rfl).mpr ⟨ρ1, S1, (Res.keepT (show Res E O σ H (m ρ1) _ from q) (Tr.of (U := U) S.sub k1)).mono fun ⟨f2, ρ2⟩ q2 σ2 H2 S2 t2 l2 => (q2 σ2 H2 S2 ((Tr.of S.sub k1).trans t2) l2).back fun b e => k1.some b e⟩
    | false =>
      exact (if_neg Bool.false_ne_true).mpr ⟨ρ1, S1, (Res.keepT (show Res E O σ H (n ρ1) _ from q) (Tr.of (U := U) S.sub k1)).mono fun ⟨f2, ρ2⟩ q2 σ2 H2 S2 t2 l2 => (q2 σ2 H2 S2 ((Tr.of S.sub k1).trans t2) l2).back fun b e => k1.some b e⟩⟩
end
end Y

set_option Elab.async false
set_option linter.all false
set_option maxRecDepth 100000
namespace Y
open PySem PySem.Spec PyProof.Rows L2
section
variable {K : PySem.W.Frag} {X : Cx} {P0 : Pr} {O W U : List Nat} {E : EK} {a b c e tg iter : Expr} {es : List Expr} {ma mb mc : EM} {ms : AM} {pos : Pos} {st : Stmt} {sts : List Stmt} {m n : SM}
def sAsg (m : EM) (tm : GM) : SM := fun ρ => do
  let (h, ρ1) ← m ρ
  let d ← h.v.nox
  let ρ2 ← (tm d ρ1).nox
  pure (.nx, ρ2)
theorem Tr.slots {is : List Nat} {σ σ' : St} {H : Hp} (ho : ∀ i ∈ is, i ∉ O) (hu : ∀ i ∈ U, i ∈ O) (h : ∀ j, j ∉ is → σ'[j]? = σ[j]?) : Tr O U σ H σ' H :=
  ⟨fun _ _ e _ => e, fun _ e => e, fun b z => .inl ((OA_of (fun i hi => h i fun y => ho i y hi) b).mp z), fun i hi => h i fun y => ho i y (hu i hi)⟩
theorem tM_asg {tm : GM} {is : List Nat} (ho : ∀ i ∈ is, i ∉ O) (hu : ∀ i ∈ U, i ∈ O) (D : Ends) (σ : St) (H : Hp) (h : tSt K P0 O W U E (sAsg ma tm) D σ H) : tAsg (tM K P0 O W E ma) (tG K P0 O W tm is) D σ H := by
  obtain ⟨ρ, S, h⟩ := h
  refine ⟨ρ, S, (h.of_bind.down S.sub).mono fun ⟨hd, ρ1⟩ q v H1 S1 k1 r1 => ?_⟩
  obtain ⟨d, e1, q⟩ := q.of_nox
  obtain ⟨ρ2, e2, q⟩ := q.of_nox
  exact ⟨ρ1, d, ρ2, S1, r1.v e1, e2, fun σ' S' l h' => q σ' H1 S' ((Tr.of S.sub k1).trans (Tr.slots ho hu h')) l⟩
theorem cs_asg {tm : GM} {is : List Nat} (h : CEx X P0 O W E e ma) (hg : CG X P0 O W tg tm is) (ho : ∀ i ∈ is, i ∉ O := by decide) (hu : ∀ i ∈ U, i ∈ O := by decide) (hs : swapsWithSole [tg] e pos.line X.env = pure false := by rfl) (hw : swappedStores [tg] e X.env = pure none := by rfl) (h1 : (assignEach [tg] X.env).map (·.2) = [assign tg X.env] := by rfl) : CS X P0 O W U E (.Assign [tg] e pos) (sAsg ma tm) :=
  PS.imp (ps_asg h hg hs hw h1) (tM_asg ho hu)
/-- y = [.. for ..] on one line, y not captured -/
theorem cs_asgLc {i : Nat} {y : Str} {py : Pos} {elt : Expr} {ifs : List Expr} {scope : Scope} {own : List (Str × Nat)} {im : IM} {tm : GM} {t : BM} {me : EM} {is : List Nat} {p2 : Pos} (hc : X.calm = true) (hN : X.N.Nodup) (hy : X.N[i]? = some y) (hyl : X.env.scope.names.lookup y = some .local)
    (hsw : swapsWith (.ListComp elt [⟨tg, iter, ifs, 0⟩] scope pos) (some (.Name y py)) p2.line X.env = pure true) (hi : CI X P0 O W E tg iter im) (ok : BlkOk X.N X.env.scope scope own)
    (hg : ∀ (P0 : Pr) (s : Shared) (H : Hp) (C : Addr) (cl : List (Str × Addr)) (fp : List Addr), CG (X.blk s H scope (compEnvC scope cl C X.env) fp) P0 O W tg tm is)
    (ht : ∀ (s : Shared) (H : Hp) (C : Addr) (cl : List (Str × Addr)) (fp : List Addr), CTs (X.blk s H scope (compEnvC scope cl C X.env) fp) O W E00 ifs t)
    (he : ∀ (P0 : Pr) (s : Shared) (H : Hp) (C : Addr) (cl : List (Str × Addr)) (fp : List Addr), CEx (X.blk s H scope (compEnvC scope cl C X.env) fp) P0 O W E00 elt me)
    (hv : ∀ i ∈ is, i ∈ own.map (·.2) := by decide) (ho : ∀ i ∈ own.map (·.2), i ∉ O := by decide) (hi' : i ∉ O := by decide) (hu : ∀ i ∈ U, i ∈ O := by decide) (hs : ∀ x, foldedSetIterable iter X.env x = pure x := by intro _; rfl) :
    CS X P0 O W U E (.Assign [.Name y py] (.ListComp elt [⟨tg, iter, ifs, 0⟩] scope pos) p2) (sAsg (cComp im tm t me (own.map (·.2))) (tmName i)) :=
  PS.imp (ps_setLc (i := i) hc hN hy hyl hsw hi ok (fun s H C cl fp => PG.ex fun P0 => hg P0 s H C cl fp) ht (fun s H C cl fp => PE.ex fun P0 => he P0 s H C cl fp) hs) fun D σ H h => by
    have q := tM_asg (is := [i]) (by simpa using hi') hu D σ H h
    refine comp_core (im := im) (tm := tm) (t := t) (me := me) hv ho σ H _ ?_
    obtain ⟨ρ, S, q⟩ := q
    refine ⟨ρ, S, q.mono fun a q v H1 S1 k1 r1 => ?_⟩
    obtain ⟨ρ1, d, ρ2, S2, r, e, q⟩ := q v H1 S1 k1 r1
    cases e
    exact q _ (S2.set hi' r) (by simp) fun j hj => List.getElem?_set_ne fun z => hj (by simp [z])
noncomputable def sOwn (O W : List Nat) (m : EM) (i : Nat) : SM := fun ρ => do
  let (h, ρ1) ← m ρ
  match h with
  | .fr d => do
    let _ ← (chkO O W ρ ρ1).nox
    if d.ownable = true then pure (.nx, ρ1.set i (some d)) else .stk
  | _ => .stk
theorem tM_own {i : Nat} (hi : i ∈ O) (hu : i ∉ U) (D : Ends) (σ : St) (H : Hp) (h : tSt K P0 O W U E (sOwn O W ma i) D σ H) : tAsg (tM K P0 O W E ma) (gName i) D σ H := by
  obtain ⟨ρ, S, h⟩ := h
  refine ⟨ρ, S, (h.of_bind.down S.sub).mono fun ⟨hd, ρ1⟩ q v H1 S1 k1 r1 => ?_⟩
  cases hd with
  | vl d => exact q.elim
  | ow j => exact q.elim
  | fr d =>
    obtain ⟨_, e1, q⟩ := Res.of_nox (show Res E O σ H ((chkO O W ρ ρ1).nox >>= _) _ from q)
    have c := chkO_ok e1
    by_cases hd : d.ownable = true
    · rw [if_pos hd] at q
      have new : ∀ a, v = .ref a → H a = none ∧ isMut (H1 a) := fun a e => by
        subst e
        have r := r1.1
        have f := r1.2
        cases d with
        | lst ds =>
          unfold Rep at r
          obtain ⟨b, vs, e, h0, h1, h2⟩ := r
          cases e
          exact ⟨f rfl _ rfl, by rw [h1]; trivial⟩
        | non => unfold Rep at r; cases r
        | bl _ => unfold Rep at r; cases r
        | int _ => unfold Rep at r; cases r
        | str _ => unfold Rep at r; cases r
        | tup _ => cases hd
        | arg _ => cases hd
        | ftu _ => cases hd
        | tab _ _ => cases hd
        | dik _ _ => cases hd
        | dit _ _ => cases hd
      have S2 := S.setO S1 k1 c hi new (r1.1.own S1.dom hd fun b z => z)
      have gs : ∀ {b : Addr}, OA O (σ.set i (some v)) b → OA O σ b ∨ H b = none := fun {b} ⟨j, hj, e⟩ => by
        by_cases hij : i = j
        · subst hij
          have h1 : i < σ.length := by have := (List.getElem?_eq_some_iff.mp e).1; simpa using this
          rw [List.getElem?_set_self h1] at e
          cases e
          exact .inr (new b rfl).1
        · rw [List.getElem?_set_ne hij] at e
          exact .inl ⟨j, hj, e⟩
      exact q _ H1 S2 ⟨fun b o e n => k1.keep b o e fun z => n (S.oaw z), k1.some, fun b z => gs z, fun j hj => List.getElem?_set_ne fun (z : i = j) => hu (by rw [z]; exact hj)⟩ (by simp)
    · rw [if_neg hd] at q
      exact q.elim
theorem cs_own {i : Nat} {x : Str} {p : Pos} (hN : X.N.Nodup) (h : CEx X P0 O W E e ma) (hi : i ∈ O := by decide) (hu : i ∉ U := by decide) (hx : X.N[i]? = some x := by rfl) (hl : Loc X.env.scope x := by first | exact Or.inl rfl | exact Or.inr rfl) (hf : X.fn x = true ∨ X.env.scope.names.lookup x = some .local := by first | exact .inl rfl | exact .inr rfl)
    (hs : swapsWithSole [.Name x p] e pos.line X.env = pure false := by rfl) (hw : swappedStores [.Name x p] e X.env = pure none := by rfl) : CS X P0 O W U E (.Assign [.Name x p] e pos) (sOwn O W ma i) :=
  PS.imp (ps_asg h (pg_name hN hx hl hf) hs hw) (tM_own hi hu)
/-- few arguments, no stars -/
abbrev Few (X : Cx) (cp : Pos) (es : List Expr) : Prop := ((backTo cp (starEach es X.env)).all (fun x => !x.1) && (backToKw cp (keywordEach [] X.env)).all (fun x => x.1.isSome)
      && decide (es.length + ([] : List Keyword).length + (if ([] : List Keyword).isEmpty then 0 else 1) < 30)) = true
theorem Tr.ownW {i : Nat} {l : Addr} {o : HO} {σ : L2.St} {H H1 : Hp} (hs : ∀ i ∈ W, i ∈ O) (k : Keep W σ H H1) (hi : i ∈ O) (ha : σ[i]? = Option.some (Option.some (V.ref l))) : Tr O U σ H σ (upd H1 l o) where
  keep := fun b u e n => by
    rw [upd_ne fun (z : b = l) => n ⟨i, hi, by rw [z]; exact ha⟩]
    exact k.keep b u e fun ⟨j, hj, z⟩ => n ⟨j, hs j hj, z⟩
  some := fun b e => by
    by_cases hb : b = l
    · rw [hb, upd_same]; intro z; cases z
    · rw [upd_ne hb]; exact k.some b e
  own := fun _ z => .inl z
  unch := fun _ _ => rfl
/-- the list of an own slot -/
theorem Sim.lst {ρ : Env} {σ : St} {H : Hp} (S : Sim K P0 O W ρ σ H) {i : Nat} {ds : List D} (hi : i ∈ O) (e : ρ[i]? = some (some (.lst ds))) : ∃ l vs, σ[i]? = some (some (.ref l)) ∧ H l = some (.lst vs) ∧ Reps K H ds (FA P0 O σ) vs := by
  obtain ⟨v, h1, l, vs, rfl, h2, h3⟩ := S.own i _ e hi
  exact ⟨l, vs, h1, h2, h3⟩
/-- .. is given other items -/
theorem Sim.lstW {ρ : Env} {σ : St} {H : Hp} (S : Sim K P0 O W ρ σ H) {i : Nat} {l : Addr} {ds' : List D} {vs' vs : List V} (hi : i ∈ O) (ha : σ[i]? = some (some (.ref l))) (hl : H l = some (.lst vs)) (r : Reps K H ds' (FA P0 O σ) vs') : Sim K P0 O W (ρ.set i (some (.lst ds'))) σ (upd H l (.lst vs')) :=
  S.ownW hi ha trivial ⟨l, vs', rfl, upd_same, r.mono ds' S.dom (fun b o e n => by rw [upd_ne fun z => n (.inr ⟨i, hi, by rw [z]; exact ha⟩)]; exact e) fun b z => .inl z⟩
def lstAt (i : Nat) (ρ : Env) : R (List D) := match ρ[i]? with
  | some (some (.lst ds)) => .ok ds
  | _ => .stk
theorem lstAt_ok {i : Nat} {ρ : Env} {ds : List D} (h : lstAt i ρ = .ok ds) : ρ[i]? = some (some (.lst ds)) := by
  unfold lstAt at h
  split at h
  · rename_i e; cases h; exact e
  · cases h
/-- x.append(e) -/
def sAppend (i : Nat) (m : EM) : SM := fun ρ => do
  let _ ← (lstAt i ρ).nox
  let (h, ρ1) ← m ρ
  let d ← h.v.nox
  let ds ← (lstAt i ρ1).nox
  if szOk (ds.length + 1) = true then pure (.nx, ρ1.set i (some (.lst (ds ++ [d])))) else .stk
theorem tM_append {i : Nat} (hi : i ∈ O) (D : Ends) (σ : St) (H : Hp) (h : tSt K P0 O W U E (sAppend i ma) D σ H) : tDrop (tBM K "list" rAppend (tVar i) (tCons (tM K P0 O W E ma) tNil)) D σ H := by
  obtain ⟨ρ, S, h⟩ := h
  obtain ⟨ds0, e0, h⟩ := h.of_nox
  obtain ⟨l, vs0, h1, h2, _⟩ := S.lst hi (lstAt_ok e0)
  refine ⟨.ref l, h1, .inl ⟨rfl, _, SqL.of h2⟩, ρ, S, (h.of_bind.down S.sub).mono fun ⟨hd, ρ1⟩ q v H1 S1 k1 r1 => ?_⟩
  obtain ⟨d, e1, q⟩ := q.of_nox
  obtain ⟨ds, e2, q⟩ := q.of_nox
  obtain ⟨l', vs, h1', h3, h4⟩ := S1.lst hi (lstAt_ok e2)
  rw [h1] at h1'
  cases h1'
  by_cases c : szOk (ds.length + 1) = true
  · rw [if_pos c] at q
    have c := of_decide_eq_true c
    refine ⟨l, vs, v, rfl, rfl, h3, by rw [h4.length]; omega, ?_⟩
    exact q σ _ (S1.lstW hi h1 h3 (h4.append (Reps.cons (r1.v e1) Reps.nil))) (Tr.ownW S.sub k1 hi h1) rfl
  · rw [if_neg c] at q
    exact q.elim
theorem cs_append {i : Nat} {x : Str} {p ap cp : Pos} (h : CEx X P0 O W E e ma) (hi : i ∈ O := by decide) (hx : X.N[i]? = some x := by rfl) (hv : Vis X.env.scope x := by first | exact Or.inl rfl | exact Or.inr (Or.inl rfl) | exact Or.inr (Or.inr rfl)) (hd : (x == ("__debug__" : Str)) = false := by decide) (hcd : (x == ("__classdict__" : Str)) = false := by decide)
    (he : starEach [e] X.env = (false, eval e X.env) :: starEach [] X.env := by rfl) (hpl : (backTo cp (starEach [] X.env)).any (·.1) = false := by rfl) (hbase : attributeBase (.Name x p) "append" X.env (eval (.Name x p) X.env) = eval (.Name x p) X.env := by rfl) (hline : (ap.endLine == cp.line) = true := by rfl)
    (hfew : Few X cp [e] := by rfl) (hsw : swapsWith (.Call (.Attribute (.Name x p) "append" ap) [e] [] cp) none pos.line X.env = pure false := by rfl) :
    CS X P0 O W U E (.Expr (.Call (.Attribute (.Name x p) "append" ap) [e] [] cp) pos) (sAppend i ma) :=
  PS.imp (ps_expr (pe_bm PySem.F.plainAttrs_list PySem.F.slot_list_append PySem.F.type_list_append mt_append (pe_var (i := i) hx hv hd hcd) (pa_cons h pa_nil he) hbase hfew hline he hpl) hsw) (tM_append hi)
end
end Y

set_option Elab.async false
set_option linter.all false
set_option maxRecDepth 100000
namespace Y
open PySem PySem.Spec PyProof.Rows L2
section
variable {K : PySem.W.Frag} {X : Cx} {P0 : Pr} {O W U : List Nat} {E : EK} {a b c e tg iter : Expr} {es : List Expr} {ma mb mc : EM} {ms : AM} {pos : Pos} {st : Stmt} {sts : List Stmt} {m n : SM}
def sSetIx (i : Nat) (mk mv : EM) : SM := fun ρ => do
  let (h, ρ1) ← mv ρ
  let d ← h.v.nox
  let _ ← (lstAt i ρ1).nox
  let (h2, ρ2) ← mk ρ1
  let k ← h2.v.nox
  match k with
  | .int z => do
    let ds ← (lstAt i ρ2).nox
    match ixN ds.length z with
    | some j => pure (.nx, ρ2.set i (some (.lst (ds.set j d))))
    | none => .stk
  | _ => .stk
theorem Reps.set {H : Hp} {P : Pr} {d : D} {v : V} (r : Rep K H d P v) : ∀ {ds : List D} {vs : List V} (j : Nat), Reps K H ds P vs → Reps K H (ds.set j d) P (vs.set j v)
  | [], _, j, h => by rw [h.nil_iff]; exact Reps.nil
  | x :: xs, _, 0, h => by
    obtain ⟨w, ws, rfl, h1, h2⟩ := h.cons_iff
    exact Reps.cons r h2
  | x :: xs, _, j + 1, h => by
    obtain ⟨w, ws, rfl, h1, h2⟩ := h.cons_iff
    exact Reps.cons h1 (Reps.set r j h2)
theorem cs_setix {i : Nat} {x : Str} {p sp : Pos} {k : Expr} {mk : EM} (h : CEx X P0 O W E e ma) (hk : CEx X P0 O W E k mk) (hi : i ∈ O := by decide) (hx : X.N[i]? = some x := by rfl) (hv : Vis X.env.scope x := by first | exact Or.inl rfl | exact Or.inr (Or.inl rfl) | exact Or.inr (Or.inr rfl)) (hd : (x == ("__debug__" : Str)) = false := by decide) (hcd : (x == ("__classdict__" : Str)) = false := by decide)
    (hs : swapsWithSole [.Subscript (.Name x p) k sp] e pos.line X.env = pure false := by rfl) (hw : swappedStores [.Subscript (.Name x p) k sp] e X.env = pure none := by rfl) (h1 : (assignEach [.Subscript (.Name x p) k sp] X.env).map (·.2) = [assign (.Subscript (.Name x p) k sp) X.env] := by rfl)
    (hb : ∀ v, assign (.Subscript (.Name x p) k sp) X.env v = (do
      let ov ← holding [v] (eval (.Name x p) X.env)
      let iv ← holding [v, ov] (eval k X.env)
      standAt sp
      holding [v, ov, iv] (setItem ov iv v)
      release [v, ov, iv] []) := by intro _; rfl) :
    CS X P0 O W U E (.Assign [.Subscript (.Name x p) k sp] e pos) (sSetIx i mk ma) := PS.imp (ps_asg h (pg_sub (pe_var (i := i) hx hv hd hcd) hk set_list hb) hs hw h1) fun D σ H ⟨ρ, S, h⟩ => by
  refine ⟨ρ, S, (h.of_bind.down S.sub).mono fun ⟨hd, ρ1⟩ q v H1 S1 k1 r1 => ?_⟩
  obtain ⟨d, e1, q1⟩ := q.of_nox
  obtain ⟨ds0, e0, q2⟩ := q1.of_nox
  obtain ⟨l, vs0, h1, h2, _⟩ := S1.lst hi (lstAt_ok e0)
  refine ⟨.ref l, h1, ρ1, S1, ((q2.of_bind.down S1.sub).keep k1).mono fun ⟨hd2, ρ2⟩ q3 w H2 S2 k2 r2 => ?_⟩
  obtain ⟨dk, e2, q4⟩ := q3.of_nox
  have rk := r2.v e2
  cases dk <;> first | (exact q4.elim) | skip
  rename_i z
  unfold Rep at rk
  subst rk
  obtain ⟨ds, e3, q5⟩ := Res.of_nox (show Res E O σ H ((lstAt i ρ2).nox >>= _) _ from q4)
  obtain ⟨l', vs, h1', h3, h4⟩ := S2.lst hi (lstAt_ok e3)
  rw [h1] at h1'
  cases h1'
  cases ej : ixN ds.length z with
  | none => rw [ej] at q5; exact q5.elim
  | some j =>
    rw [ej] at q5
    refine ⟨l, vs, z, j, rfl, rfl, h3, by rw [h4.length]; exact ej, ?_⟩
    exact q5 σ _ (S2.lstW hi h1 h3 (Reps.set (S1.rep k2 (r1.v e1)) j h4)) (Tr.ownW S.sub (k1.trans k2) hi h1) rfl
noncomputable def forL (tm : GM) (body : SM) (vs ws : List Nat) : List D → Env → R (Fl × Env)
  | [], ρ => .ok (.nx, ρ)
  | x :: xs, ρ => do
    let ρ1 ← (tm x ρ).nox
    let (f, ρ2) ← body ρ1
    match f with
    | .bk => pure (.nx, ρ2)
    | .rt h => pure (.rt h, ρ2)
    | _ => do
      let _ ← (chk ws ρ (wipeE ρ2 vs)).nox
      forL tm body vs ws xs (wipeE ρ2 vs)
noncomputable def sFor (U : List Nat) (im : IM) (tm : GM) (body : SM) (vs : List Nat) : SM := fun ρ => do
  let ((ds, ws), ρ1) ← im ρ
  if (ws.all fun w => U.contains w) = true then forL tm body vs ws ds ρ1 else .stk
theorem for_core {im : IM} {tm : GM} {is vs U' : List Nat} (ho : ∀ i ∈ is, i ∉ O) (hu : ∀ i ∈ U', i ∈ O) (hu' : ∀ i ∈ U, i ∈ U') (D : Ends) (σ : L2.St) (H : Hp) (h : tSt X.K P0 O W U E (sFor U' im tm m vs) D σ H) : tFor (tMi X.K P0 O W E im) (tG X.K P0 O W tm is) (tSt X.K P0 O W U' E m) D σ H := by
  obtain ⟨ρ, S, h⟩ := h
  refine ⟨ρ, S, (h.of_bind.down S.sub).mono fun ⟨⟨ds, ws⟩, ρ1⟩ q J H1 Ok S1 k1 src ok hz => ?_⟩
  have src : Src X.K O W ds ws J Ok := src
  have q : Res E O σ H (if (ws.all fun w => U'.contains w) = true then forL tm m vs ws ds ρ1 else .stk) _ := q
  by_cases hw : (ws.all fun w => U'.contains w) = true
  · rw [if_pos hw] at q
    have hw : ∀ w ∈ ws, w ∈ U' := fun w hw' => by simpa using List.all_eq_true.mp hw w hw'
    have t1 : Tr O U σ H σ H1 := Tr.of S.sub k1
    let Post : Fl × Env → Prop := fun a => ∀ σ' H', Sim X.K P0 O W a.2 σ' H' → Tr O U σ H σ' H' → σ'.length = σ.length → Fin X.K P0 O H D σ' H' a.1
    let I : Nat → L2.St → Hp → Prop := fun i σx Hx => i ≤ ds.length ∧ ∃ ρx, Sim X.K P0 O W ρx σx Hx ∧ Ok P0 ρx σx Hx ∧ Tr O U σ H σx Hx ∧ σx.length = σ.length ∧ Res E O σx Hx (forL tm m vs ws (ds.drop i) ρx) Post
    refine ⟨fun i k σx Hx => k = ds.length - i ∧ I i σx Hx, ⟨ds.length, by simp, Nat.zero_le _, ρ1, S1, ok, t1, rfl, Res.keepT (show Res E O σ H (forL tm m vs ws ds ρ1) Post from q) t1⟩, ?_⟩
    rintro i k σx Hx ⟨rfl, hil, ρx, Sx, okx, tx, lx, qx⟩
    by_cases hlt : i < ds.length
    · right
      refine ⟨src.go P0 i ρx σx Hx Sx okx hlt, I (i + 1), fun σ' H' p' => ⟨ds.length - (i + 1), by omega, rfl, p'⟩, fun x' H' y => ?_⟩
      obtain ⟨sm, rx⟩ := src.yld P0 i ρx σx Hx x' H' ds[i] Sx okx (List.getElem?_eq_getElem hlt) y
      rw [List.drop_eq_getElem_cons hlt] at qx
      unfold forL at qx
      obtain ⟨ρa, e1, qx⟩ := qx.of_nox
      refine ⟨ρx, ds[i], ρa, Sx.same sm, rx, e1, fun σ2 S2 l2 ag => ?_⟩
      have t2 : Tr O U' σx Hx σ2 H' := Tr.trans (σ1 := σx) (H1 := H') ⟨fun b o e _ => sm b o e, Same.some sm, fun _ z => .inl z, fun _ _ => rfl⟩ (Tr.slots ho hu ag)
      refine ⟨ρa, S2, (Res.keepT qx.of_bind t2).mono fun ⟨f, ρ2⟩ q3 σ3 H3 S3 t3 l3 => ?_⟩
      have t4 : Tr O U' σx Hx σ3 H3 := t2.trans t3
      have t5 : Tr O U σ H σ3 H3 := tx.trans (t4.less hu')
      have l5 : σ3.length = σ.length := l3.trans (l2.trans lx)
      have next : Res E O σx Hx (do let _ ← (chk ws ρx (wipeE ρ2 vs)).nox; forL tm m vs ws (ds.drop (i + 1)) (wipeE ρ2 vs)) Post → I (i + 1) σ3 H3 := fun q4 => by
        obtain ⟨_, e4, q5⟩ := Res.of_nox (show Res E O σx Hx ((chk ws ρx (wipeE ρ2 vs)).nox >>= fun _ => forL tm m vs ws (ds.drop (i + 1)) (wipeE ρ2 vs)) Post from q4)
        refine ⟨hlt, wipeE ρ2 vs, S3.wipe vs, ?_, t5, l5, Res.keepT q5 t4⟩
        refine src.keep P0 ρx σx Hx _ σ3 H3 Sx (fun b o e n => t4.keep b o e fun z => n (.inr z)) (fun b z => ?_) (fun w hw' => ⟨t4.unch w (hw w hw'), chk_ok e4 w hw'⟩) okx
        rcases z with z | z
        · exact .inl (.inl z)
        · exact (t4.own b z).imp .inr id
      cases f with
      | nx => exact next q3
      | ct => exact next q3
      | bk => exact q3 σ3 H3 S3 t5 l5
      | rt hd =>
        intro v r
        exact q3 σ3 H3 S3 t5 l5 v (r.back fun b e => Same.some sm b (tx.some b e))
    · left
      have ei : i = ds.length := by omega
      subst ei
      rw [List.drop_length] at qx
      exact ⟨src.stop P0 ρx σx Hx Sx okx, qx σx Hx Sx tx lx⟩
  · rw [if_neg hw] at q
    exact q.elim
theorem cs_for {im : IM} {tm : GM} {is vs U' : List Nat} {xs : List Stmt} (hp : PassesOwn (model X.prog X.w) X.A X.env X.xe) (hc : X.calm = true) (hi : CI X P0 O W E tg iter im) (hg : CG X P0 O W tg tm is) (hb : CSs X P0 O W U' E xs m) (ho : ∀ i ∈ is, i ∉ O := by decide) (hu : ∀ i ∈ U', i ∈ O := by decide) (hu' : ∀ i ∈ U, i ∈ U' := by decide)
    (hs : ∀ x, foldedSetIterable iter X.env x = pure x := by intro _; rfl) : CS X P0 O W U E (.For tg iter xs [] pos) (sFor U' im tm m vs) := PS.imp (ps_for hp hc hi hg hb hs) (for_core ho hu hu')
end
end Y

set_option Elab.async false
set_option linter.all false
set_option maxRecDepth 100000
namespace Y
open PySem PySem.Spec PyProof.Rows L2

theorem passN {X : Cx} : Passes (L2N.CX X.prog X.w) X E0 := fun _ _ _ _ _ _ _ q => by
  rcases q with ⟨_, _, _, _, _, _, _, _, _, _, _, _, f⟩
  exact False.elim f
theorem okN {P : Program} {w : World} {K : PySem.W.Frag} {mg : Str → Option Value} {base : Heap} {x qual : Str} {st : Stmt} {f : Addr} {fd : FuncData} {N ps : List Str} {k : Nat} {sp : Sp} (F : Fun K x qual st f fd) (S : FnScope N ps (defScope st)) (hlen : ∀ vs H Q E, sp vs H Q E → vs.length = ps.length)
    (hb : ∀ (cdv : Value) (A : Around) (outer : List PySem.Env) (s : Shared) (H : Hp) (vs : List V) (Q : VK) (E : XK), Room k (A.deeper (envOfC qual (defScope st) s.heap.objs.size f cdv)) → sp vs H Q E →
      ∃ t, PSs (cxOf (L2N.CX P w) P w K mg base N qual (defScope st) f cdv A outer s H E) (defBody st) t ∧ t { nx := fun _ H' => Q .non H', rt := Q } (L2.start N vs) H) : FnOk P w K mg base (L2N.CX P w) (k + 1) f fd ps sp := by
  rcases F.ex with ⟨_, _, _, _, _, _, cd, _, _, rfl, look, code⟩
  exact fn_of look code S hlen fun A outer s H vs Q E => hb cd A outer s H vs Q E

/-- an exception of the program's own, made with a text -/
def exE (mg : Str → Option Value) (E : XK) : EK := fun c ds H => ds = [] ∧ ∃ C, mg c = some (.ref C) ∧ E (.ref C) none H
abbrev Fn := List D → R (Hd × Env)
/-- O: the parameters whose lists it may change -/
def spD (K : PySem.W.Frag) (mg : Str → Option Value) (np : Nat) (O : List Nat) (g : Fn) : Sp := fun vs H Q E => vs.length = np ∧ ∃ ds P0, Sim K P0 O [] (ds.map some) (vs.map some) H ∧ ds.length = np ∧
  Res (exE mg E) O (vs.map some) H (g ds) fun a => ∀ v H', Keep O (vs.map some) H H' → Sim K P0 O [] a.2 (vs.map some) H' → HdR K P0 O H (vs.map some) H' a.1 v → Q v H'
structure Glo (P : Program) (w : World) (K : PySem.W.Frag) (mg : Str → Option Value) (base : Heap) (name : Str) (k np : Nat) (O : List Nat) (g : Fn) : Prop where
  ex : ∃ f fd ps, mg name = some (.ref f) ∧ PySem.W.keepIn K (.ref f) = true ∧ Binds K fd ps [] ∧ ps.length = np ∧ FnOk P w K mg base (L2N.CX P w) k f fd ps (spD K mg np O g)
/-- exceptions of callees reach what is wanted here -/
structure Out2 (X : Cx) (E : EK) (XE : XK) : Prop where
  pass : Passes (L2N.CX X.prog X.w) X XE
  ex : ∀ c ds H, E c ds H → exE X.mg XE c ds H
theorem Out2.blk {X : Cx} : Out2 X E00 E0 := ⟨passN, fun _ _ _ h => h.elim⟩
def pureF (g : List D → R Hd) : Fn := fun ds => do
  let h ← g ds
  pure (h, [])
section
variable {K : PySem.W.Frag} {P0 : Pr} {O W : List Nat} {ρ : Env} {σ : St} {H H' : Hp}
theorem FA_nil {τ : St} (b : Addr) : FA P0 [] τ b ↔ P0 b := ⟨fun z => z.elim id (fun ⟨_, h, _⟩ => (nomatch h)), .inl⟩
theorem Keep.nil {τ : St} (k : Keep [] τ H H') : Same H H' := fun b o e => k.keep b o e fun ⟨_, h, _⟩ => nomatch h
/-- the callee's state where no parameter is its own -/
theorem sim_args {ds : List D} {vs : List V} (hm : ∀ b, P0 b → isMut (H b)) (r : Reps K H ds P0 vs) : Sim K P0 [] [] (ds.map some) (vs.map some) H where
  sub := fun _ h => nomatch h
  len := by rw [List.length_map, List.length_map, r.length]; exact Nat.le_refl _
  dom := fun b z => hm b ((FA_nil b).mp z)
  val := fun i d e _ => by
    rw [List.getElem?_map] at e
    cases q : ds[i]? with
    | none => rw [q] at e; cases e
    | some d' =>
      rw [q] at e; cases e
      obtain ⟨v, e1, r1⟩ := r.get q
      exact ⟨v, by rw [List.getElem?_map, e1]; rfl, r1.less hm fun b z => (FA_nil b).mp z⟩
  own := fun i d e h => nomatch h
  sep := fun _ _ _ h => nomatch h
  sep0 := fun a ⟨_, h, _⟩ => nomatch h
end
section
variable {X : Cx} {P0 : Pr} {O W U : List Nat} {E : EK} {XE : XK} {a b c e : Expr} {es : List Expr} {ma mb mc : EM} {ms : AM} {pos : Pos} {k np : Nat} {name : Str}
/-- f(..), no argument's list is changed -/
def cCallF (g : List D → R Hd) (m : AM) : EM := fun ρ => do
  let (hs, ρ1) ← m ρ
  let ds ← (vsOf hs).nox
  let h ← g ds
  match h with
  | .ow _ => .stk
  | h => pure (h, ρ1)
theorem tM_callF {g : List D → R Hd} (hE : ∀ c ds H, E c ds H → exE X.mg XE c ds H) (σ : St) (H : Hp) (Q : VK) (len : ∀ σ H Q, tMs X.K P0 O W E ms σ H Q → True) (h : tM X.K P0 O W E (cCallF g ms) σ H Q) (hl : ∀ ρ hs ρ1, ms ρ = .ok (hs, ρ1) → hs.length = np) :
    tCall (spD X.K X.mg np [] (pureF g)) [] XE (tMs X.K P0 O W E ms) σ H Q := by
  obtain ⟨ρ, S, h⟩ := h
  refine ⟨ρ, S, ?_⟩
  cases em : ms ρ with
  | stk => unfold cCallF at h; rw [em] at h; exact h.elim
  | er c ds => unfold cCallF at h; rw [em] at h; exact h
  | ok p =>
    obtain ⟨hs, ρ1⟩ := p
    unfold cCallF at h
    rw [em] at h
    intro vs H1 S1 k1 r1
    obtain ⟨ds, e1, q⟩ := Res.of_nox (show Res E W σ H ((vsOf hs).nox >>= _) _ from h)
    have rr := HdRs.vs r1 e1
    have lv : vs.length = np := by
      have : ∀ {hs : List Hd} {vs : List V}, HdRs X.K P0 O H σ H1 hs vs → vs.length = hs.length := fun {hs} => by
        induction hs with
        | nil => intro vs r; have r : vs = [] := r; rw [r]; rfl
        | cons h hs ih => intro vs ⟨v, ws, e, _, r2⟩; rw [e, List.length_cons, List.length_cons, ih r2]
      rw [this r1]
      exact hl ρ hs ρ1 em
    rw [List.append_nil]
    refine ⟨lv, ds, FA P0 O σ, sim_args S1.dom rr, by rw [← rr.length]; exact lv, ?_⟩
    have q := q.keep k1
    unfold pureF
    cases eg : g ds with
    | stk => rw [eg] at q; exact q.elim
    | er c xs =>
      rw [eg] at q
      exact fun H' kp => hE c xs H' (q H' (Keep.same kp.nil))
    | ok hd =>
      rw [eg] at q
      intro v H2 k2 _ r2
      have sm := Keep.nil k2
      cases hd with
      | ow j => exact q.elim
      | fr d => exact q v H2 (S1.same sm) (k1.trans (Keep.same sm)) ⟨r2.1.less (fun b z => (S1.same sm).dom b ((FA_nil b).mp z)) fun b z => .inl z, fun m a e => Classical.byContradiction fun z => k1.some a z (r2.2 m a e)⟩
      | vl d => exact q v H2 (S1.same sm) (k1.trans (Keep.same sm)) (Rep.less (fun b z => (S1.same sm).dom b ((FA_nil b).mp z)) r2 fun b z => .inl z)
/-- the number of arguments -/
def ALen (m : AM) (n : Nat) : Prop := ∀ ρ hs ρ1, m ρ = .ok (hs, ρ1) → hs.length = n
theorem alen_nil : ALen cNil 0 := fun ρ hs ρ1 h => by cases h; rfl
theorem alen_cons {n : Nat} (h : ALen ms n) : ALen (cCons ma ms) (n + 1) := fun ρ hs ρ1 e => by
  obtain ⟨⟨h1, ρa⟩, e1, e⟩ := R.ok_of e
  obtain ⟨⟨h2, ρb⟩, e2, e⟩ := R.ok_of e
  cases e
  rw [List.length_cons, h _ _ _ e2]
theorem ce_call {g : List D → R Hd} {p : Pos} (G : Glo X.prog X.w X.K X.mg X.base name k np [] (pureF g)) (o : Out2 X E XE) (hr : Room k X.A) (ha : CA X P0 O W E (e :: es) ms) (hl : ALen ms np) (hg : Gl X name := by rfl) (hdb : (name == ("__debug__" : Str)) = false := by decide)
    (he : starEach (e :: es) X.env = (false, eval e X.env) :: starEach es X.env := by rfl) (hpl : (backTo pos (starEach es X.env)).any (·.1) = false := by rfl) : CEx X P0 O W E (.Call (.Name name p) (e :: es) [] pos) (cCallF g ms) := by
  obtain ⟨f, fd, ps, hm, hk, hb, _, F⟩ := G.ex
  exact PE.imp (pe_call F hr hg hm hk hb .nil o.pass ha hdb he hpl) fun σ H Q h => tM_callF o.ex σ H Q (fun _ _ _ _ => trivial) h hl
end
end Y

set_option Elab.async false
set_option linter.all false
set_option maxRecDepth 100000
namespace Y
open PySem PySem.Spec PyProof.Rows L2

def retH (np : Nat) : Fl → Env → R Hd
  | .nx, _ => .ok (.fr .non)
  | .rt (.ow i), ρ => if np ≤ i then (do
      let d ← (look i ρ).nox
      pure (.fr d)) else .stk
  | .rt h, _ => .ok h
  | _, _ => .stk
def outs (O : List Nat) (np : Nat) (ρ : Env) : Env := (List.range np).map fun i => if O.contains i = true then ρ.getD i none else none
def fnD (np n : Nat) (O : List Nat) (m : SM) : Fn := fun ds => do
  let (f, ρ) ← m (ds.map some ++ List.replicate (n - np) none)
  let h ← (retH np f ρ).nox
  pure (h, outs O np ρ)
section
variable {K : PySem.W.Frag} {mg : Str → Option Value} {P0 : Pr} {O Oc W U : List Nat} {ρ : Env} {σ : St} {H H' : Hp} {d : D} {v : V} {np n : Nat}
theorem RepO.less {P P' : Pr} (hm : ∀ b, P b → isMut (H b)) (h : RepO K H d P v) (hp : ∀ b, P' b → P b) : RepO K H d P' v := h.mono hm (fun _ _ e _ => e) (fun b z => .inl (hp b z)) fun _ _ _ e => e
/-- an own slot's object, told on -/
theorem RepO.rep {P P' : Pr} (hm : ∀ b, P b → isMut (H b)) (h : RepO K H d P v) (hp : ∀ b, P' b → P b) (ha : ∀ a, v = .ref a → ¬ P' a ∧ P a) : Rep K H d P' v := by
  cases d with
  | lst ds =>
    obtain ⟨a, vs, rfl, h1, h2⟩ := h
    unfold Rep
    exact ⟨a, vs, rfl, (ha a rfl).1, h1, h2.less hm fun b z => z.elim (hp b) fun z => by rw [z]; exact (ha a rfl).2⟩
  | dik ks ds =>
    obtain ⟨a, vs, rfl, hl, h1, h2⟩ := h
    unfold Rep
    exact ⟨a, vs, rfl, (ha a rfl).1, hl, .inl h1, h2.less hm fun b z => z.elim (hp b) fun z => by rw [z]; exact (ha a rfl).2⟩
  | dit ks ds =>
    obtain ⟨a, vs, rfl, hl, h1, h2⟩ := h
    unfold Rep
    exact ⟨a, vs, rfl, (ha a rfl).1, hl, .inl h1, h2.less hm fun b z => z.elim (hp b) fun z => by rw [z]; exact (ha a rfl).2⟩
  | non => unfold Rep; exact h
  | bl _ => unfold Rep; exact h
  | int _ => unfold Rep; exact h
  | str _ => unfold Rep; exact h
  | tup _ => exact False.elim h
  | arg _ => exact False.elim h
  | ftu _ => exact False.elim h
  | tab p q =>
    obtain ⟨a, rfl, ht⟩ := h
    unfold Rep
    exact ⟨a, rfl, (ha a rfl).1, ht⟩
theorem start_get {N : List Str} {vs : List V} {i : Nat} {v : V} (h : (L2.start N vs)[i]? = some (some v)) : vs[i]? = some v := by
  unfold L2.start at h
  by_cases hi : i < vs.length
  · rw [List.getElem?_append_left (by simpa using hi), List.getElem?_map] at h
    cases e : vs[i]? with
    | none => rw [e] at h; cases h
    | some a => rw [e] at h; cases h; rfl
  · rw [List.getElem?_append_right (by simpa using hi), List.getElem?_replicate] at h
    split at h <;> cases h
theorem start_of {N : List Str} {vs : List V} {i : Nat} {v : V} (h : vs[i]? = some v) : (L2.start N vs)[i]? = some (some v) := by
  unfold L2.start
  have hi : i < vs.length := (List.getElem?_eq_some_iff.mp h).1
  rw [List.getElem?_append_left (by simpa using hi), List.getElem?_map, h]
  rfl
theorem env_get {ds : List D} {k i : Nat} {d : D} (h : (ds.map some ++ List.replicate k none)[i]? = some (some d)) : ds[i]? = some d := by
  by_cases hi : i < ds.length
  · rw [List.getElem?_append_left (by simpa using hi), List.getElem?_map] at h
    cases e : ds[i]? with
    | none => rw [e] at h; cases h
    | some a => rw [e] at h; cases h; rfl
  · rw [List.getElem?_append_right (by simpa using hi), List.getElem?_replicate] at h
    split at h <;> cases h
theorem map_get {α : Type} {ds : List α} {i : Nat} {d : α} : (ds.map some)[i]? = some (some d) ↔ ds[i]? = some d := by
  rw [List.getElem?_map]
  cases ds[i]? <;> simp
theorem OA_start {N : List Str} {vs : List V} (hO : ∀ i, i ∈ O ↔ i ∈ Oc ∧ i < np) (hl : vs.length = np) (b : Addr) : OA Oc (L2.start N vs) b ↔ OA O (vs.map some) b := by
  constructor
  · rintro ⟨i, hi, e⟩
    have e := start_get e
    exact ⟨i, (hO i).mpr ⟨hi, by rw [← hl]; exact (List.getElem?_eq_some_iff.mp e).1⟩, map_get.mpr e⟩
  · rintro ⟨i, hi, e⟩
    exact ⟨i, ((hO i).mp hi).1, start_of (map_get.mp e)⟩
theorem sim_start {N : List Str} {ds : List D} {vs : List V} (S : Sim K P0 O [] (ds.map some) (vs.map some) H) (hO : ∀ i, i ∈ O ↔ i ∈ Oc ∧ i < np) (hW : ∀ i ∈ W, i ∈ Oc) (hl : vs.length = np) (hd : ds.length = np) (hn : N.length = n) : Sim K P0 Oc W (ds.map some ++ List.replicate (n - np) none) (L2.start N vs) H := by
  have fa : ∀ b, FA P0 Oc (L2.start N vs) b → FA P0 O (vs.map some) b := fun b z => z.imp id (OA_start hO hl b).mp
  refine ⟨hW, by unfold L2.start; simp; omega, fun b z => S.dom b (fa b z), fun i d e n => ?_, fun i d e n => ?_, fun i j a hi hj e1 e2 => ?_, fun a z => S.sep0 a ((OA_start hO hl a).mp z)⟩
  · obtain ⟨v, h1, h2⟩ := S.val i d (map_get.mpr (env_get e)) fun z => n ((hO i).mp z).1
    exact ⟨v, start_of (map_get.mp h1), h2.less S.dom fa⟩
  · have e := env_get e
    have hi : i < np := by rw [← hd]; exact (List.getElem?_eq_some_iff.mp e).1
    obtain ⟨v, h1, h2⟩ := S.own i d (map_get.mpr e) ((hO i).mpr ⟨n, hi⟩)
    exact ⟨v, start_of (map_get.mp h1), h2.less S.dom fa⟩
  · have e1 := start_get e1
    have e2 := start_get e2
    have l1 : i < np := by rw [← hl]; exact (List.getElem?_eq_some_iff.mp e1).1
    have l2 : j < np := by rw [← hl]; exact (List.getElem?_eq_some_iff.mp e2).1
    exact S.sep i j a ((hO i).mpr ⟨hi, l1⟩) ((hO j).mpr ⟨hj, l2⟩) (map_get.mpr e1) (map_get.mpr e2)
theorem outs_get {i : Nat} (h : (outs O np ρ)[i]? = some (some d)) : i ∈ O ∧ i < np ∧ ρ[i]? = some (some d) := by
  unfold outs at h
  rw [List.getElem?_map] at h
  cases e : (List.range np)[i]? with
  | none => rw [e] at h; cases h
  | some j =>
    rw [e] at h
    have hi := (List.getElem?_eq_some_iff.mp e).1
    have hj : j = i := by
      obtain ⟨h1, h2⟩ := List.getElem?_eq_some_iff.mp e
      simpa using h2.symm
    subst hj
    simp only [Option.map_some, Option.some.injEq] at h
    split at h
    · rename_i c
      refine ⟨by simpa using c, by simpa using hi, ?_⟩
      rw [List.getD_eq_getElem?_getD] at h
      cases q : ρ[j]? with
      | none => rw [q] at h; cases h
      | some o => rw [q] at h; simp at h; rw [h]
    · cases h
/-- THE RULE for a def -/
theorem fnD_ok {P : Program} {w : World} {base : Heap} {x qual : Str} {st : Stmt} {f : Addr} {fd : FuncData} {N ps : List Str} {k : Nat} {m : SM} (F : Fun K x qual st f fd) (S : FnScope N ps (defScope st)) (hp : ps.length = np) (hn : N.length = n) (hO : ∀ i, i ∈ O ↔ i ∈ Oc ∧ i < np) (hW : ∀ i ∈ W, i ∈ Oc) (hU : ∀ i ∈ O, i ∈ U)
    (hb : ∀ (cdv : Value) (A : Around) (outer : List PySem.Env) (s : Shared) (H : Hp) (E : XK) (P0 : Pr), Room k (A.deeper (envOfC qual (defScope st) s.heap.objs.size f cdv)) → CSs (cxOf (L2N.CX P w) P w K mg base N qual (defScope st) f cdv A outer s H E) P0 Oc W U (exE mg E) (defBody st) m) :
    FnOk P w K mg base (L2N.CX P w) (k + 1) f fd ps (spD K mg np O (fnD np n O m)) := by
  refine okN F S (fun vs H Q E h => by rw [h.1, hp]) fun cdv A outer s H vs Q E hr h => ?_
  obtain ⟨hl, ds, P0, S0, hd, h⟩ := h
  refine ⟨_, hb cdv A outer s H E P0 hr, _, sim_start S0 hO hW hl hd hn, ?_⟩
  have oa := fun b => OA_start (N := N) hO hl b
  have kO : ∀ {H'}, Keep Oc (L2.start N vs) H H' → Keep O (vs.map some) H H' := fun {H'} k => ⟨fun b o e nn => k.keep b o e fun z => nn ((oa b).mp z), k.some⟩
  unfold fnD at h
  cases em : m (ds.map some ++ List.replicate (n - np) none) with
  | stk => rw [em] at h; exact h.elim
  | er c xs => rw [em] at h; exact fun H' kp => h H' (kO kp)
  | ok p =>
    obtain ⟨fl, ρ1⟩ := p
    rw [em] at h
    obtain ⟨hh, e1, h⟩ := Res.of_nox (show Res (exE mg E) O (vs.map some) H ((retH np fl ρ1).nox >>= _) _ from h)
    intro σ' H' S' t' l'
    have h : ∀ v H', Keep O (vs.map some) H H' → Sim K P0 O [] (outs O np ρ1) (vs.map some) H' → HdR K P0 O H (vs.map some) H' hh v → Q v H' := h
    have un : ∀ i ∈ O, σ'[i]? = (L2.start N vs)[i]? := fun i hi => t'.unch i (hU i hi)
    have pre : ∀ {i : Nat} {v : V}, i ∈ O → (σ'[i]? = some (some v) ↔ (vs.map some)[i]? = some (some v)) := fun {i v} hi => by
      rw [un i hi]
      exact ⟨fun e => map_get.mpr (start_get e), fun e => start_of (map_get.mp e)⟩
    have oO : ∀ b, OA O (vs.map some) b → OA Oc σ' b := fun b ⟨i, hi, e⟩ => ⟨i, ((hO i).mp hi).1, (pre hi).mpr e⟩
    have fa : ∀ b, FA P0 O (vs.map some) b → FA P0 Oc σ' b := fun b z => z.imp id (oO b)
    have kk : Keep O (vs.map some) H H' := ⟨fun b o e nn => t'.keep b o e fun z => nn ((oa b).mp z), t'.some⟩
    have so : Sim K P0 O [] (outs O np ρ1) (vs.map some) H' := by
      refine ⟨fun _ z => (nomatch z), by unfold outs; simp [hl], fun b z => S'.dom b (fa b z), fun i d e nn => absurd (outs_get e).1 nn, fun i d e hi => ?_, S0.sep, S0.sep0⟩
      obtain ⟨_, _, e2⟩ := outs_get e
      obtain ⟨v, h1, h2⟩ := S'.own i d e2 ((hO i).mp hi).1
      exact ⟨v, (pre hi).mp h1, h2.less S'.dom fa⟩
    cases fl with
    | bk => cases e1
    | ct => cases e1
    | nx => cases e1; exact h .non H' kk so ⟨by unfold Rep; rfl, fun z => by cases z⟩
    | rt hd' =>
      intro v r
      cases hd' with
      | fr d => cases e1; exact h v H' kk so ⟨r.1.less S'.dom fa, r.2⟩
      | vl d => cases e1; exact h v H' kk so (Rep.less S'.dom r fa)
      | ow i =>
        have e1 : (if np ≤ i then (do
          let d ← (look i ρ1).nox
          pure (Hd.fr d)) else .stk) = R.ok hh := e1
        by_cases hi : np ≤ i
        · rw [if_pos hi] at e1
          obtain ⟨d, e2, e1⟩ := R.ok_of e1
          cases e1
          have e2 := look_some (R.nox_of e2)
          obtain ⟨v', h1, h2⟩ := S'.own i d e2 r.1
          have q : σ'[i]? = some (some v) := r.2
          rw [q] at h1
          cases h1
          have no : ∀ a, v = .ref a → ¬ OA O (vs.map some) a := fun a e z => by
            obtain ⟨j, hj, ej⟩ := z
            have := S'.sep i j a r.1 ((hO j).mp hj).1 (by rw [q, e]) ((pre hj).mpr ej)
            have := ((hO j).mp hj).2
            omega
          refine h v H' kk so ⟨h2.rep S'.dom fa fun a e => ⟨fun z => ?_, .inr ⟨i, r.1, by rw [q, e]⟩⟩, fun _ a e => ?_⟩
          · rcases z with z | z
            · exact S'.sep0 a ⟨i, r.1, by rw [q, e]⟩ z
            · exact no a e z
          · rcases t'.own a ⟨i, r.1, by rw [q, e]⟩ with z | z
            · exact absurd ((oa a).mp z) (no a e)
            · exact z
        · rw [if_neg hi] at e1
          cases e1
end
end Y

set_option Elab.async false
set_option linter.all false
set_option maxRecDepth 100000
namespace Y
open PySem PySem.Spec PyProof.Rows L2

def placed (pr : List (Nat × Nat)) : Nat → List Hd → Bool
  | _, [] => true
  | j, .ow i :: hs => pr.contains (j, i) && placed pr (j + 1) hs
  | j, _ :: hs => (!pr.any fun p => p.1 == j) && placed pr (j + 1) hs
def putOuts (os : Env) : List (Nat × Nat) → Env → Env
  | [], ρ => ρ
  | (j, i) :: pr, ρ => (putOuts os pr ρ).set i (os.getD j none)
def cCallIO (pr : List (Nat × Nat)) (g : Fn) (m : AM) : EM := fun ρ => do
  let (hs, ρ1) ← m ρ
  if placed pr 0 hs = true then do
    let ds ← (dsOf hs ρ1).nox
    let (h, os) ← g ds
    match h with
    | .ow _ => .stk
    | h => pure (h, putOuts os pr ρ1)
  else .stk
section
variable {K : PySem.W.Frag} {P0 : Pr} {O Oc W : List Nat} {ρ : Env} {σ : St} {Hs H H' : Hp} {pr : List (Nat × Nat)} {os : Env}
theorem putOuts_len : ∀ pr : List (Nat × Nat), (putOuts os pr ρ).length = ρ.length
  | [] => rfl
  | (j, i) :: pr => by unfold putOuts; rw [List.length_set, putOuts_len pr]
theorem putOuts_ne {x : Nat} : ∀ {pr : List (Nat × Nat)}, x ∉ pr.map (·.2) → (putOuts os pr ρ)[x]? = ρ[x]?
  | [], _ => rfl
  | (j, i) :: pr, h => by
    simp only [List.map_cons, List.mem_cons, not_or] at h
    unfold putOuts
    rw [List.getElem?_set_ne fun z => h.1 z.symm, putOuts_ne h.2]
theorem putOuts_at {j i : Nat} {d : D} : ∀ {pr : List (Nat × Nat)}, (pr.map (·.2)).Nodup → (j, i) ∈ pr → (putOuts os pr ρ)[i]? = some (some d) → os[j]? = some (some d)
  | [], _, h, _ => nomatch h
  | (j', i') :: pr, nd, h, e => by
    simp only [List.map_cons, List.nodup_cons] at nd
    unfold putOuts at e
    rcases List.mem_cons.mp h with z | z
    · cases z
      have hl : i < (putOuts os pr ρ).length := by
        have := (List.getElem?_eq_some_iff.mp e).1
        simpa using this
      rw [List.getElem?_set_self hl, List.getD_eq_getElem?_getD] at e
      cases q : os[j]? with
      | none => rw [q] at e; cases e
      | some o => rw [q] at e; simp at e; rw [e]
    · have hi : i' ≠ i := fun y => nd.1 (by rw [y]; exact List.mem_map.mpr ⟨_, z, rfl⟩)
      rw [List.getElem?_set_ne hi] at e
      exact putOuts_at nd.2 z e
theorem HdRs.at : ∀ {hs : List Hd} {vs : List V} {j : Nat} {v : V}, HdRs K P0 O Hs σ H hs vs → vs[j]? = some v → ∃ h, hs[j]? = some h ∧ HdR K P0 O Hs σ H h v
  | [], _, _, _, r, e => by have r : _ = [] := r; rw [r] at e; simp at e
  | h :: hs, _, 0, v, ⟨w, ws, e0, r1, _⟩, e => by subst e0; simp at e; subst e; exact ⟨h, rfl, r1⟩
  | h :: hs, _, j + 1, v, ⟨w, ws, e0, _, r2⟩, e => by subst e0; simpa using HdRs.at r2 (by simpa using e)
theorem HdRs.len : ∀ {hs : List Hd} {vs : List V}, HdRs K P0 O Hs σ H hs vs → vs.length = hs.length
  | [], _, r => by have r : _ = [] := r; rw [r]; rfl
  | h :: hs, _, ⟨w, ws, e0, _, r2⟩ => by subst e0; rw [List.length_cons, List.length_cons, HdRs.len r2]
theorem dsOf_at : ∀ {hs : List Hd} {ds : List D}, dsOf hs ρ = .ok ds → ds.length = hs.length ∧ ∀ (j : Nat) h d, hs[j]? = some h → ds[j]? = some d → h.d ρ = .ok d
  | [], _, e => by cases e; exact ⟨rfl, fun j h d e => by simp at e⟩
  | h :: hs, _, e => by
    obtain ⟨d, e1, e⟩ := R.ok_of e
    obtain ⟨ds, e2, e⟩ := R.ok_of e
    cases e
    obtain ⟨l, g⟩ := dsOf_at e2
    refine ⟨by rw [List.length_cons, List.length_cons, l], fun j h' d' a b => ?_⟩
    cases j with
    | zero => simp at a b; subst a b; exact R.nox_of e1
    | succ j => exact g j h' d' (by simpa using a) (by simpa using b)
theorem placed_at : ∀ {hs : List Hd} {k : Nat}, placed pr k hs = true → ∀ (j : Nat) h, hs[j]? = some h → (∃ i, h = .ow i ∧ (k + j, i) ∈ pr) ∨ ((∀ i, h ≠ .ow i) ∧ (k + j) ∉ pr.map (·.1))
  | [], _, _, j, h, e => by simp at e
  | h0 :: hs, k, p, j, h, e => by
    cases j with
    | zero =>
      simp at e; subst e
      cases h0 with
      | ow i =>
        unfold placed at p
        rw [Bool.and_eq_true] at p
        exact .inl ⟨i, rfl, by simpa using p.1⟩
      | fr d =>
        unfold placed at p
        rw [Bool.and_eq_true] at p
        refine .inr ⟨fun i z => (by cases z), fun z => ?_⟩
        obtain ⟨q, hq, e⟩ := List.mem_map.mp z
        have := p.1
        simp only [Bool.not_eq_true', List.any_eq_false] at this
        exact this q hq (by simpa using e)
      | vl d =>
        unfold placed at p
        rw [Bool.and_eq_true] at p
        refine .inr ⟨fun i z => (by cases z), fun z => ?_⟩
        obtain ⟨q, hq, e⟩ := List.mem_map.mp z
        have := p.1
        simp only [Bool.not_eq_true', List.any_eq_false] at this
        exact this q hq (by simpa using e)
    | succ j =>
      have p2 : placed pr (k + 1) hs = true := by
        cases h0 <;> (unfold placed at p; rw [Bool.and_eq_true] at p; exact p.2)
      have := placed_at p2 j h (by simpa using e)
      rwa [show k + 1 + j = k + (j + 1) by omega] at this
end
theorem nodup_inj {pr : List (Nat × Nat)} (hn : (pr.map (·.2)).Nodup) {j j' i : Nat} (a : (j, i) ∈ pr) (b : (j', i) ∈ pr) : j = j' := by
  induction pr with
  | nil => cases a
  | cons p pr ih =>
    simp only [List.map_cons, List.nodup_cons] at hn
    rcases List.mem_cons.mp a with a | a <;> rcases List.mem_cons.mp b with b | b
    · rw [← a] at b; cases b; rfl
    · exact absurd (List.mem_map.mpr ⟨_, b, by rw [← a]⟩) hn.1
    · exact absurd (List.mem_map.mpr ⟨_, a, by rw [← b]⟩) hn.1
    · exact ih hn.2 a b
theorem nodup_inj1 {pr : List (Nat × Nat)} (hn : (pr.map (·.1)).Nodup) {j i i' : Nat} (a : (j, i) ∈ pr) (b : (j, i') ∈ pr) : i = i' := by
  induction pr with
  | nil => cases a
  | cons p pr ih =>
    simp only [List.map_cons, List.nodup_cons] at hn
    rcases List.mem_cons.mp a with a | a <;> rcases List.mem_cons.mp b with b | b
    · rw [← a] at b; cases b; rfl
    · exact absurd (List.mem_map.mpr ⟨_, b, by rw [← a]⟩) hn.1
    · exact absurd (List.mem_map.mpr ⟨_, a, by rw [← b]⟩) hn.1
    · exact ih hn.2 a b
section
variable {X : Cx} {P0 : Pr} {O Oc W U : List Nat} {E : EK} {XE : XK} {a b c e : Expr} {es : List Expr} {ma mb mc : EM} {ms : AM} {pos : Pos} {k np : Nat} {name : Str} {pr : List (Nat × Nat)}
theorem tM_callIO {g : Fn} (hE : ∀ c ds H, E c ds H → exE X.mg XE c ds H) (hO : O = pr.map (·.1)) (hn : (pr.map (·.2)).Nodup) (hn1 : (pr.map (·.1)).Nodup) (hw : ∀ p ∈ pr, p.2 ∈ W) (hl : ALen ms np) (σ : St) (H : Hp) (Q : VK) (h : tM X.K P0 Oc W E (cCallIO pr g ms) σ H Q) :
    tCall (spD X.K X.mg np O g) [] XE (tMs X.K P0 Oc W E ms) σ H Q := by
  obtain ⟨ρ, S, h⟩ := h
  refine ⟨ρ, S, ?_⟩
  cases em : ms ρ with
  | stk => unfold cCallIO at h; rw [em] at h; exact h.elim
  | er c ds => unfold cCallIO at h; rw [em] at h; exact h
  | ok p =>
    obtain ⟨hs, ρ1⟩ := p
    unfold cCallIO at h
    rw [em] at h
    intro vs H1 S1 k1 r1
    have q : Res E W σ H (if placed pr 0 hs = true then (do
      let ds ← (dsOf hs ρ1).nox
      let (h, os) ← g ds
      match h with
      | .ow _ => .stk
      | h => pure (h, putOuts os pr ρ1)) else .stk) _ := h
    have hp : placed pr 0 hs = true := by
      cases hp : placed pr 0 hs with
      | true => rfl
      | false => rw [hp] at q; exact q.elim
    rw [if_pos hp] at q
    obtain ⟨ds, e1, q⟩ := q.of_nox
    have pl := placed_at hp
    simp only [Nat.zero_add] at pl
    obtain ⟨dl, dg⟩ := dsOf_at e1
    have lv : vs.length = np := by rw [HdRs.len r1]; exact hl ρ hs ρ1 em
    have ld : ds.length = np := by rw [dl]; exact hl ρ hs ρ1 em
    rw [List.append_nil]
    -- the callee's own objects are own here
    have own : ∀ {j : Nat} {v : V}, j ∈ O → (vs.map some)[j]? = some (some v) → ∃ i, (j, i) ∈ pr ∧ i ∈ Oc ∧ i ∈ W ∧ σ[i]? = some (some v) ∧ hs[j]? = some (.ow i) := fun {j v} hj e => by
      obtain ⟨h, e2, r⟩ := HdRs.at r1 (map_get.mp e)
      rcases pl j h e2 with ⟨i, rfl, hi⟩ | ⟨_, hn'⟩
      · exact ⟨i, hi, r.1, hw _ hi, r.2, e2⟩
      · rw [hO] at hj; exact absurd hj hn'
    have oa : ∀ b, OA O (vs.map some) b → OA W σ b := fun b ⟨j, hj, e⟩ => let ⟨i, _, _, h2, h3, _⟩ := own hj e; ⟨i, h2, h3⟩
    have oaO : ∀ b, OA O (vs.map some) b → OA Oc σ b := fun b z => S1.oaw (oa b z)
    generalize hP1 : (fun b => FA P0 Oc σ b ∧ ¬ OA O (vs.map some) b : Pr) = P1
    have fa1 : ∀ b, FA P1 O (vs.map some) b → FA P0 Oc σ b := fun b z => by
      subst hP1
      rcases z with z | z
      · exact z.1
      · exact .inr (oaO b z)
    have fa2 : ∀ b, FA P0 Oc σ b → FA P1 O (vs.map some) b := fun b z => by
      subst hP1
      by_cases y : OA O (vs.map some) b
      · exact .inr y
      · exact .inl ⟨z, y⟩
    have S2 : Sim X.K P1 O [] (ds.map some) (vs.map some) H1 := by
      refine ⟨fun _ z => (nomatch z), by simp [lv, ld], fun b z => S1.dom b (fa1 b z), fun j d e nj => ?_, fun j d e hj => ?_, fun x y a hx hy e1 e2 => ?_, fun a z y => by subst hP1; exact y.2 z⟩
      · have e := map_get.mp e
        have hj : j < vs.length := by rw [lv, ← ld]; exact (List.getElem?_eq_some_iff.mp e).1
        have ev : vs[j]? = some vs[j] := List.getElem?_eq_getElem hj
        obtain ⟨h, e2, r⟩ := HdRs.at r1 ev
        refine ⟨vs[j], map_get.mpr ev, ?_⟩
        have hd := dg j h d e2 e
        rcases pl j h e2 with ⟨i, rfl, hi⟩ | ⟨hne, _⟩
        · exact absurd (by rw [hO]; exact List.mem_map.mpr ⟨_, hi, rfl⟩) nj
        · cases h with
          | fr d' => cases hd; exact r.1.less S1.dom fa1
          | vl d' => cases hd; exact Rep.less S1.dom r fa1
          | ow i => exact absurd rfl (hne i)
      · have e := map_get.mp e
        have hj' : j < vs.length := by rw [lv, ← ld]; exact (List.getElem?_eq_some_iff.mp e).1
        have ev : (vs.map some)[j]? = some (some vs[j]) := map_get.mpr (List.getElem?_eq_getElem hj')
        obtain ⟨i, h1, h2, h3, h4, h5⟩ := own hj ev
        have hd := look_some (dg j _ d h5 e)
        obtain ⟨w, h6, h7⟩ := S1.own i d hd h2
        rw [h4] at h6; cases h6
        exact ⟨_, ev, h7.less S1.dom fa1⟩
      · obtain ⟨i1, a1, b1, c1, d1, f1⟩ := own hx e1
        obtain ⟨i2, a2, b2, c2, d2, f2⟩ := own hy e2
        have ei := S1.sep i1 i2 a b1 b2 d1 d2
        subst ei
        have := nodup_inj hn a1 a2
        exact this
    refine ⟨lv, ds, P1, S2, ld, ?_⟩
    have q := q.keep k1
    cases eg : g ds with
    | stk => rw [eg] at q; exact q.elim
    | er c xs =>
      rw [eg] at q
      exact fun H' kp => hE c xs H' (q H' ⟨fun b o e n => kp.keep b o e fun z => n (oa b z), kp.some⟩)
    | ok p =>
      obtain ⟨hd, os⟩ := p
      rw [eg] at q
      intro v H2 k2 S3 r2
      have S3 : Sim X.K P1 O [] os (vs.map some) H2 := S3
      have k3 : Keep W σ H1 H2 := ⟨fun b o e n => k2.keep b o e fun z => n (oa b z), k2.some⟩
      have slot : ∀ {j i : Nat}, (j, i) ∈ pr → i ∈ Oc := fun {j i} z => S1.sub i (hw _ z)
      have S4 : Sim X.K P0 Oc W (putOuts os pr ρ1) σ H2 := by
        refine ⟨S1.sub, by rw [putOuts_len]; exact S1.len, fun b z => S3.dom b (fa2 b z), fun i d e n => ?_, fun i d e n => ?_, S1.sep, S1.sep0⟩
        · have ni : i ∉ pr.map (·.2) := fun z => by
            obtain ⟨⟨j, i'⟩, hq, z⟩ := List.mem_map.mp z
            cases z
            exact n (slot hq)
          rw [putOuts_ne ni] at e
          obtain ⟨v, h1, h2⟩ := S1.val i d e n
          exact ⟨v, h1, h2.of_same S1.dom fun b o e n => k2.keep b o e fun z => n (.inr (oaO b z))⟩
        · by_cases ni : i ∈ pr.map (·.2)
          · obtain ⟨⟨j, i'⟩, hq, z⟩ := List.mem_map.mp ni
            cases z
            have eo := putOuts_at hn hq e
            have hj : j ∈ O := by rw [hO]; exact List.mem_map.mpr ⟨_, hq, rfl⟩
            obtain ⟨w, h1, h2⟩ := S3.own j d eo hj
            obtain ⟨i2, a2, b2, c2, d2, f2⟩ := own hj h1
            have : i2 = i' := by
              have := nodup_inj1 hn1 a2 hq
              exact this
            subst this
            exact ⟨w, d2, h2.less S3.dom fa2⟩
          · rw [putOuts_ne ni] at e
            obtain ⟨w, h1, h2⟩ := S1.own i d e n
            refine ⟨w, h1, h2.mono S1.dom (fun b o e n => k2.keep b o e fun z => n (.inr (oaO b z))) (fun _ z => .inl z) fun a o e1 e2 => k2.keep a o e2 fun ⟨j, hj, ej⟩ => ?_⟩
            subst e1
            obtain ⟨i2, a2, b2, c2, d2, f2⟩ := own hj ej
            have := S1.sep i i2 a n b2 h1 d2
            subst this
            exact ni (List.mem_map.mpr ⟨_, a2, rfl⟩)
      cases hd with
      | ow j => exact q.elim
      | fr d => exact q v H2 S4 (k1.trans k3) ⟨r2.1.less S3.dom fa2, fun m a e => Classical.byContradiction fun z => k1.some a z (r2.2 m a e)⟩
      | vl d => exact q v H2 S4 (k1.trans k3) (Rep.less S3.dom r2 fa2)
theorem ce_callIO {g : Fn} {p : Pos} (G : Glo X.prog X.w X.K X.mg X.base name k np O g) (pr : List (Nat × Nat)) (o : Out2 X E XE) (hr : Room k X.A) (ha : CA X P0 Oc W E (e :: es) ms) (hl : ALen ms np) (hO : O = pr.map (·.1) := by rfl) (hn : (pr.map (·.2)).Nodup := by decide) (hn1 : (pr.map (·.1)).Nodup := by decide) (hw : ∀ p ∈ pr, p.2 ∈ W := by decide) (hg : Gl X name := by rfl) (hdb : (name == ("__debug__" : Str)) = false := by decide)
    (he : starEach (e :: es) X.env = (false, eval e X.env) :: starEach es X.env := by rfl) (hpl : (backTo pos (starEach es X.env)).any (·.1) = false := by rfl) : CEx X P0 Oc W E (.Call (.Name name p) (e :: es) [] pos) (cCallIO pr g ms) := by
  obtain ⟨f, fd, ps, hm, hk, hb, _, F⟩ := G.ex
  exact PE.imp (pe_call F hr hg hm hk hb .nil o.pass ha hdb he hpl) fun σ H Q h => tM_callIO o.ex hO hn hn1 hw hl σ H Q h
end
end Y

set_option Elab.async false
set_option linter.all false
set_option maxRecDepth 100000
namespace Y
open PySem PySem.Spec PyProof.Rows L2

def fnP (np n : Nat) (m : SM) : List D → R Hd := fun ds => do
  let (f, ρ) ← m (ds.map some ++ List.replicate (n - np) none)
  (retH np f ρ).nox
section
variable {P : Program} {w : World} {K : PySem.W.Frag} {mg : Str → Option Value} {base : Heap} {name : Str} {k np n : Nat} {O : List Nat}
theorem Glo.imp {g g' : Fn} (G : Glo P w K mg base name k np O g) (h : ∀ vs H Q E, spD K mg np O g' vs H Q E → spD K mg np O g vs H Q E) : Glo P w K mg base name k np O g' :=
  let ⟨f, fd, ps, h1, h2, h3, h4, F⟩ := G.ex
  ⟨f, fd, ps, h1, h2, h3, h4, F.imp h⟩
theorem Glo.mono {g : Fn} {k' : Nat} (G : Glo P w K mg base name k np O g) (h : k ≤ k' := by decide) : Glo P w K mg base name k' np O g :=
  let ⟨f, fd, ps, h1, h2, h3, h4, F⟩ := G.ex
  ⟨f, fd, ps, h1, h2, h3, h4, F.mono h⟩
theorem spD_pure {m : SM} {vs : List V} {H : Hp} {Q : VK} {E : XK} : spD K mg np [] (pureF (fnP np n m)) vs H Q E → spD K mg np [] (fnD np n [] m) vs H Q E := fun ⟨hl, ds, P0, S, hd, h⟩ => ⟨hl, ds, P0, S, hd, by
  unfold pureF fnP at h
  unfold fnD
  cases em : m (ds.map some ++ List.replicate (n - np) none) with
  | stk => rw [em] at h; exact h
  | er c xs => rw [em] at h; exact h
  | ok p =>
    obtain ⟨fl, ρ⟩ := p
    rw [em] at h
    cases er : (retH np fl ρ).nox with
    | stk => exact (show Res (exE mg E) [] (vs.map some) H ((retH np fl ρ).nox >>= fun h => Y.R.ok (h, outs [] np ρ)) _ by
        rw [er]
        have h : Res (exE mg E) [] (vs.map some) H ((retH np fl ρ).nox >>= fun h => Y.R.ok (h, [])) _ := h
        rw [er] at h
        exact h)
    | er c xs => cases e2 : retH np fl ρ <;> rw [e2] at er <;> cases er
    | ok hd' =>
      refine (show Res (exE mg E) [] (vs.map some) H ((retH np fl ρ).nox >>= fun h => Y.R.ok (h, outs [] np ρ)) _ from ?_)
      have h : Res (exE mg E) [] (vs.map some) H ((retH np fl ρ).nox >>= fun h => Y.R.ok (h, [])) _ := h
      rw [er] at h ⊢
      exact fun v H' kp S' r => h v H' kp (S'.move (Nat.zero_le _) (fun _ _ => rfl) (fun _ z => nomatch z) fun i d e => by simp at e) r⟩
theorem Glo.pure {m : SM} (G : Glo P w K mg base name k np [] (fnD np n [] m)) : Glo P w K mg base name k np [] (pureF (fnP np n m)) := G.imp fun vs H Q E h => spD_pure h
/-- a def of the text -/
structure Def (K : PySem.W.Frag) (mg : Str → Option Value) (x : Str) (st : Stmt) : Prop where
  ex : ∃ f fd, mg x = some (.ref f) ∧ Fun K x x st f fd
theorem glo_mk {x : Str} {st : Stmt} {N ps : List Str} {Oc W U : List Nat} {m : SM} (F : Def K mg x st) (S : FnScope N ps (defScope st))
    (hb : ∀ (f : Addr) (cdv : Value) (A : Around) (outer : List PySem.Env) (s : Shared) (H : Hp) (E : XK) (P0 : Pr), Room k (A.deeper (envOfC x (defScope st) s.heap.objs.size f cdv)) → CSs (cxOf (L2N.CX P w) P w K mg base N x (defScope st) f cdv A outer s H E) P0 Oc W U (exE mg E) (defBody st) m)
    (bi : ∀ (kV doc pm : Value) (an : Option Addr) (cdv ct : Value) (us : List Value), us.length = ps.length → bindArgs (PySem.W.fnOf x x (defArgs st) (defBody st) (defScope st) .none kV doc pm an cdv ct) ⟨us, []⟩ = Pure.pure (ps.zip us))
    (hp : ps.length = np := by rfl) (hn : N.length = n := by rfl) (hO : O = Oc.filter (fun i => decide (i < np)) := by rfl) (hW : ∀ i ∈ W, i ∈ Oc := by decide) (hU : ∀ i ∈ O, i ∈ U := by decide) : Glo P w K mg base x (k + 1) np O (fnD np n O m) := by
  obtain ⟨f, fd, hm, F⟩ := F.ex
  exact ⟨f, fd, ps, hm, F.kp, F.binds bi, hp, fnD_ok F S hp hn (fun i => by rw [hO, List.mem_filter, decide_eq_true_eq]) hW hU fun cdv A outer s H E P0 hr => hb f cdv A outer s H E P0 hr⟩
theorem law_fn {st : Stmt} {f : Addr} {fd : FuncData} {N : List Str} {Oc W : List Nat} {m : SM} (F : Fun K "law" "law" st f fd) (S : FnScope N ["script"] (defScope st))
    (hb : ∀ (f : Addr) (cdv : Value) (A : Around) (outer : List PySem.Env) (s : Shared) (H : Hp) (E : XK) (P0 : Pr), Room k (A.deeper (envOfC "law" (defScope st) s.heap.objs.size f cdv)) → CSs (cxOf (L2N.CX P w) P w K mg base N "law" (defScope st) f cdv A outer s H E) P0 Oc W [] (exE mg E) (defBody st) m)
    (hn : N.length = n := by rfl) (hO : [] = Oc.filter (fun i => decide (i < 1)) := by rfl) (hW : ∀ i ∈ W, i ∈ Oc := by decide) : FnOk P w K mg base (L2N.CX P w) (k + 1) f fd ["script"] (spD K mg 1 [] (pureF (fnP 1 n m))) :=
  (fnD_ok (O := []) F S rfl hn (fun i => by rw [hO, List.mem_filter, decide_eq_true_eq]; exact Iff.rfl) hW (fun _ h => by simp at h) fun cdv A outer s H E P0 hr => hb f cdv A outer s H E P0 hr).imp fun vs H Q E h => spD_pure h
theorem out2_body {N : List Str} {x : Str} {sc : Scope} {f : Addr} {cdv : Value} {A : Around} {outer : List PySem.Env} {s : Shared} {H : Hp} {E : XK} : Out2 (cxOf (L2N.CX P w) P w K mg base N x sc f cdv A outer s H E) (exE mg E) E :=
  ⟨L2N.passes_call (L2N.takes_of rfl rfl rfl rfl) (fun _ _ _ _ h => h), fun c ds H h => h⟩
theorem cx_none {H : Hp} {s : Shared} {e : Value} {s' : Shared} (h : L2N.CX P w [] H s (fun _ _ _ => False) e s') : False := by
  obtain ⟨_, _, _, _, _, _, _, _, _, _, _, _, z⟩ := h
  exact z.elim
end
end Y

set_option Elab.async false
set_option linter.all false
set_option maxRecDepth 100000
namespace Y
open PySem PySem.Spec PyProof.Rows L2
def tyN : D → String
  | .non => "NoneType" | .bl _ => "bool" | .int _ => "int" | .str _ => "str" | .tup _ => "tuple" | .lst _ => "list" | .arg _ => "list" | .dik _ _ => "dict" | .dit _ _ => "dict" | .ftu _ => "tuple" | .tab _ _ => "NoneType"
def isInt : D → Bool
  | .int _ => true | .bl _ => true | _ => false
def isBl : D → Bool
  | .bl _ => true | _ => false
def isTup : D → Bool
  | .tup _ => true | .ftu _ => true | _ => false
def isLst : D → Bool
  | .lst _ => true | .arg _ => true | _ => false
abbrev IsK (T : String) (f : D → Bool) : Prop := ∀ d, kitB (tyN d) T = some (f d)
theorem isk_int : IsK "int" isInt := fun d => by cases d <;> simp only [tyN, isInt] <;> decide +kernel
theorem isk_bool : IsK "bool" isBl := fun d => by cases d <;> simp only [tyN, isBl] <;> decide +kernel
theorem isk_tuple : IsK "tuple" isTup := fun d => by cases d <;> simp only [tyN, isTup] <;> decide +kernel
theorem isk_list : IsK "list" isLst := fun d => by cases d <;> simp only [tyN, isLst] <;> decide +kernel
def noDit : D → Bool
  | .dit _ _ => false | .ftu _ => false | .tab _ _ => false | _ => true
def isFt : D → Bool
  | .ftu _ => true | _ => false
theorem tyX_of {K : PySem.W.Frag} {H : Hp} {P : Pr} {d : D} {v : V} (hd : (noDit d || isFt d) = true) (h : RepW K H d P v) : TyX K H v (.type (tyN d)) := by
  cases d with
  | non => have h : Rep K H .non P v := h; unfold Rep at h; subst h; exact .base .non
  | bl b => have h : Rep K H (.bl b) P v := h; unfold Rep at h; subst h; exact .base (.bl b)
  | int i => have h : Rep K H (.int i) P v := h; unfold Rep at h; subst h; exact .base (.int i)
  | str x => have h : Rep K H (.str x) P v := h; unfold Rep at h; subst h; exact .base (.str x)
  | tup ds =>
    have h : Rep K H (.tup ds) P v := h
    unfold Rep at h
    obtain ⟨a, vs, rfl, h1, _⟩ := h
    exact .base (.tup h1)
  | lst ds =>
    obtain ⟨a, vs, rfl, h1, _⟩ := h
    exact .base (.lst h1)
  | arg ns =>
    obtain ⟨a, rfl, h1⟩ := h
    rcases h1 with (h1 | ⟨o, h1⟩) | ⟨ob, its, n, h1, h2, _⟩
    · exact .base (.lst h1)
    · exact .base (.frz h1)
    · exact .kList h1 h2
  | dik ks ds =>
    obtain ⟨a, vs, rfl, _, h1, _⟩ := h
    rcases h1 with h1 | ⟨o, h1⟩
    · exact .base (.dK h1)
    · exact .fDict h1
  | dit ks ds => cases hd
  | tab _ _ => cases hd
  | ftu ds =>
    have h : Rep K H (.ftu ds) P v := h
    unfold Rep at h
    obtain ⟨a, vs, o, rfl, h1, _⟩ := h
    exact .fTuple h1
def cIsi (f : D → Bool) (m : EM) : EM := fun ρ => do
  let (h, ρ1) ← m ρ
  let d ← (h.d ρ1).nox
  if (noDit d || isFt d) = true then pure (.fr (.bl (f d)), ρ1) else .stk
section
variable {X : Cx} {P0 : Pr} {O W : List Nat} {E : EK} {a : Expr} {ma : EM} {pos : Pos}
theorem ce_isi {T : String} {x : Str} {f : D → Bool} {p q : Pos} (hk : IsK T f) (hm : X.mg "isinstance" = none) (hm2 : X.mg x = none) (h : CEx X P0 O W E a ma) (hv : bootBuiltins "isinstance" = some (.builtin "isinstance")) (hv2 : bootBuiltins x = some (.type T))
    (hg : Gl X "isinstance" := by rfl) (hg2 : Gl X x := by rfl) (hn : x ≠ "__name__" := by decide) (hdb : (x == ("__debug__" : Str)) = false := by decide)
    (he : starEach [a, .Name x q] X.env = (false, eval a X.env) :: starEach [.Name x q] X.env := by rfl) (hpl : (backTo pos (starEach [.Name x q] X.env)).any (·.1) = false := by rfl) (he2 : starEach [.Name x q] X.env = (false, eval (.Name x q) X.env) :: starEach [] X.env := by rfl) : CEx X P0 O W E (.Call (.Name "isinstance" p) [a, .Name x q] [] pos) (cIsi f ma) :=
  PE.imp (pe_callB call_isi hg hm hv (pa_cons h (pa_cons (pe_bltn hg2 hm2 hv2 (v := .ty T) rfl hn hdb) pa_nil he2) he) (by decide) (by decide) he hpl) fun σ H Q ⟨ρ, S, h⟩ => by
    refine ⟨ρ, S, h.of_bind.mono fun ⟨hd, ρ1⟩ q v H1 S1 k1 r1 => ?_⟩
    obtain ⟨d, e1, q⟩ := q.of_nox
    by_cases c : (noDit d || isFt d) = true
    · rw [if_pos c] at q
      exact ⟨v, .ty T, _, _, f d, rfl, .ty T, tyX_of c (HdR.d S1 r1 e1), kit_ty (hk d), (out_of (K := X.K) S1 k1 q).bl⟩
    · rw [if_neg c] at q
      exact q.elim
end
end Y

set_option Elab.async false
set_option linter.all false
set_option maxRecDepth 100000
namespace Y
open PySem PySem.Spec PyProof.Rows L2
def sExpr (m : EM) : SM := fun ρ => do
  let (_, ρ1) ← m ρ
  pure (.nx, ρ1)
section
variable {K : PySem.W.Frag} {X : Cx} {P0 : Pr} {O W U : List Nat} {E : EK} {e : Expr} {ma : EM} {pos : Pos}
theorem cs_expr (h : CEx X P0 O W E e ma) (hs : swapsWith e none pos.line X.env = pure false := by rfl) : CS X P0 O W U E (.Expr e pos) (sExpr ma) := PS.imp (ps_expr h hs) fun D σ H ⟨ρ, S, h⟩ =>
  ⟨ρ, S, (h.of_bind.down S.sub).mono fun ⟨hd, ρ1⟩ q v H1 S1 k1 r1 => q σ H1 S1 (Tr.of S.sub k1) rfl⟩
/-- what the top binds -/
theorem def_mk {h : Heap} {mg : Str → Option Value} {x : Str} {st : Stmt} {f : Addr} {od an : Option Addr} {sl : Array (Option Value)} {oc kV dc pm cd ct : Value} (Z : K.In h) (G : h.Ns mainGlobals mg)
    (a : PySem.W.nsIn K mainGlobals x = some (some (.ref f))) (l : K.lookup f = some ⟨oc, od, .func (PySem.W.fnOf x x (defArgs st) (defBody st) (defScope st) .none kV dc pm an cd ct), sl⟩) (c : PySem.W.codeIn K cd x = true) (k : PySem.W.keepIn K (.ref f) = true) : Def K mg x st :=
  ⟨⟨f, _, PySem.W.mg_of Z G a, fun_mk l c k⟩⟩
end
theorem bo_len : bootBuiltins "len" = some (.builtin "len") := by decide +kernel
theorem bo_max : bootBuiltins "max" = some (.builtin "max") := by decide +kernel
theorem bo_min : bootBuiltins "min" = some (.builtin "min") := by decide +kernel
theorem bo_sum : bootBuiltins "sum" = some (.builtin "sum") := by decide +kernel
theorem bo_all : bootBuiltins "all" = some (.builtin "all") := by decide +kernel
theorem bo_any : bootBuiltins "any" = some (.builtin "any") := by decide +kernel
theorem bo_isinstance : bootBuiltins "isinstance" = some (.builtin "isinstance") := by decide +kernel
theorem bo_sorted : bootBuiltins "sorted" = some (.builtin "sorted") := by decide +kernel
theorem bo_tuple : bootBuiltins "tuple" = some (.type "tuple") := by decide +kernel
theorem bo_list : bootBuiltins "list" = some (.type "list") := by decide +kernel
theorem bo_bool : bootBuiltins "bool" = some (.type "bool") := by decide +kernel
theorem bo_int : bootBuiltins "int" = some (.type "int") := by decide +kernel
theorem _root_.L2.Room.units65 {k : Nat} {A : Around} (r : Room k A) : A.units + 65 < cLine := by have := r.un; omega
end Y

set_option Elab.async false
set_option linter.all false
set_option maxRecDepth 100000
namespace Y
open PySem PySem.Spec PyProof.Rows L2
abbrev Good (g : List D → R Hd) (n : Nat) : Prop := ∀ ns : List Int, ns.length ≤ n → (∀ z ∈ ns, Builtin.Int.intBits z ≤ 1048576) → ∃ b, g [.arg ns] = .ok b ∧ (b = .fr (.bl true) ∨ b = .vl (.bl true))
def spL (K : PySem.W.Frag) (n : Nat) : Sp := fun vs H Q E => ∃ (a : Addr) (ns : List Int), vs = [.ref a] ∧ SqL K H a (ns.map V.int) ∧ ns.length ≤ n ∧ (∀ z ∈ ns, Builtin.Int.intBits z ≤ 1048576) ∧ ∀ H', Q (.bl true) H'
theorem spL_to {K : PySem.W.Frag} {mg : Str → Option Value} {g : List D → R Hd} {n : Nat} (hg : Good g n) {vs : List V} {H : Hp} {Q : VK} {E : XK} : spL K n vs H Q E → spD K mg 1 [] (pureF g) vs H Q E := fun ⟨a, ns, e, hS, h1, h2, q⟩ => by
  subst e
  obtain ⟨b, e, hb⟩ := hg ns h1 h2
  refine ⟨rfl, [.arg ns], fun _ => False, sim_args (fun b z => z.elim) (Reps.cons ?_ Reps.nil), rfl, ?_⟩
  · unfold Rep
    refine ⟨a, rfl, ?_⟩
    rcases hS with hS | hS
    · exact .inl ⟨fun z => z, hS⟩
    · exact .inr (.inr hS)
  · unfold pureF
    rw [e]
    intro v H' _ _ r
    have : v = .bl true := by
      rcases hb with rfl | rfl
      · have r := r.1; unfold Rep at r; exact r
      · have r : Rep K H' (.bl true) (FA (fun _ => False) [] ([V.ref a].map some)) v := r; unfold Rep at r; exact r
    rw [this]
    exact q H'
/-- the law as the head wants it -/
theorem law_all {P : Program} {w : World} {K : PySem.W.Frag} {mg : Str → Option Value} {h : Heap} {fa f2 : Addr} {st : Stmt} {k n : Nat} {g : List D → R Hd} (Z : K.In h) (G : h.Ns mainGlobals mg) (hfa : mg "law" = some (.ref fa)) (hg : Good g n)
    {od an : Option Addr} {sl : Array (Option Value)} {oc kV dc pm cd ct : Value}
    (ok : ∀ (base : Heap) {f : Addr} {fd : FuncData}, Fun K "law" "law" st f fd → FnOk P w K mg base (L2N.CX P w) k f fd ["script"] (spD K mg 1 [] (pureF g)))
    (hb : ∀ (kV dc pm : Value) (an : Option Addr) (cd ct : Value) (s : Shared) (u : Value), BindsTo s (PySem.W.fnOf "law" "law" (defArgs st) (defBody st) (defScope st) .none kV dc pm an cd ct) ⟨[u], []⟩ [("script", u)])
    (a : PySem.W.nsIn K mainGlobals "law" = some (some (.ref f2))) (l : K.lookup f2 = some ⟨oc, od, .func (PySem.W.fnOf "law" "law" (defArgs st) (defBody st) (defScope st) .none kV dc pm an cd ct), sl⟩) (c : PySem.W.codeIn K cd "law" = true) (kp : PySem.W.keepIn K (.ref f2) = true) :
    ∃ fd : FuncData, (∀ (s : Shared) (u : Value), BindsTo s fd ⟨[u], []⟩ [("script", u)]) ∧ ∀ base : Heap, K.In base → base.Ns mainGlobals mg → FnOk P w K mg base (L2N.CX P w) k fa fd ["script"] (spL K n) := by
  have e := hfa.symm.trans (PySem.W.mg_of Z G a)
  cases e
  exact ⟨_, fun s u => hb kV dc pm an cd ct s u, fun base _ _ => (ok base (fun_mk l c kp)).imp fun vs H Q E h => spL_to hg h⟩
end Y

set_option Elab.async false
set_option linter.all false
set_option maxRecDepth 100000
namespace Y
open PySem PySem.Spec PyProof.Rows L2
variable {ρ : Env}
@[simp] theorem e_look {i : Nat} : look i ρ = (match ρ[i]? with | some (some d) => .ok d | _ => .stk) := id rfl
@[simp] theorem e_var {i : Nat} : cVar i ρ = ((look i ρ).nox >>= fun d => R.ok (.vl d, ρ)) := id rfl
@[simp] theorem e_own {i : Nat} : cOwn i ρ = ((look i ρ).nox >>= fun _ => R.ok (.ow i, ρ)) := id rfl
@[simp] theorem e_c {d : D} : cC d ρ = .ok (.fr d, ρ) := id rfl
@[simp] theorem e_hfr {d : D} : Hd.d (.fr d) ρ = .ok d := id rfl
@[simp] theorem e_hvl {d : D} : Hd.d (.vl d) ρ = .ok d := id rfl
@[simp] theorem e_how {i : Nat} : Hd.d (.ow i) ρ = look i ρ := id rfl
@[simp] theorem e_vfr {d : D} : Hd.v (.fr d) = .ok d := id rfl
@[simp] theorem e_vvl {d : D} : Hd.v (.vl d) = .ok d := id rfl
@[simp] theorem e_vow {i : Nat} : Hd.v (.ow i) = .stk := id rfl
@[simp] theorem e_op {f : D → D → R D} {a b : EM} : cOp f a b ρ = (a ρ >>= fun p => b p.2 >>= fun q => (p.1.d q.2).nox >>= fun x => (q.1.d q.2).nox >>= fun y => (f x y).nox >>= fun z => R.ok (.fr z, q.2)) := id rfl
@[simp] theorem e_tru {m : EM} : cTru m ρ = (m ρ >>= fun p => (p.1.d p.2).nox >>= fun d => (truD d).nox >>= fun b => R.ok (b, p.2)) := id rfl
@[simp] theorem e_bl {m : EM} : cBl m ρ = (m ρ >>= fun p => p.1.v.nox >>= fun d => match d with | .bl b => R.ok (b, p.2) | _ => .stk) := id rfl
@[simp] theorem e_notT {m : BM} : cNotT m ρ = (m ρ >>= fun p => R.ok (!p.1, p.2)) := id rfl
@[simp] theorem e_andT {a b : BM} : cAndT a b ρ = (a ρ >>= fun p => if p.1 = true then b p.2 else R.ok (false, p.2)) := id rfl
@[simp] theorem e_orT {a b : BM} : cOrT a b ρ = (a ρ >>= fun p => if p.1 = true then R.ok (true, p.2) else b p.2) := id rfl
@[simp] theorem e_nil : cNil ρ = .ok ([], ρ) := id rfl
@[simp] theorem e_cons {a : EM} {as : AM} : cCons a as ρ = (a ρ >>= fun p => as p.2 >>= fun q => R.ok (p.1 :: q.1, q.2)) := id rfl
@[simp] theorem e_vs0 : vsOf [] = .ok [] := id rfl
@[simp] theorem e_vs1 {h : Hd} {hs : List Hd} : vsOf (h :: hs) = (h.v.nox >>= fun d => vsOf hs >>= fun ds => R.ok (d :: ds)) := id rfl
@[simp] theorem e_ds0 : dsOf [] ρ = .ok [] := id rfl
@[simp] theorem e_ds1 {h : Hd} {hs : List Hd} : dsOf (h :: hs) ρ = ((h.d ρ).nox >>= fun d => dsOf hs ρ >>= fun ds => R.ok (d :: ds)) := id rfl
@[simp] theorem e_and {a b : EM} : cAnd a b ρ = (a ρ >>= fun p => (p.1.d p.2).nox >>= fun d => (truD d).nox >>= fun k => if k = true then b p.2 else R.ok (p.1, p.2)) := id rfl
@[simp] theorem e_not {m : EM} : cNot m ρ = (m ρ >>= fun p => (p.1.d p.2).nox >>= fun d => (truD d).nox >>= fun k => R.ok (.fr (.bl (!k)), p.2)) := id rfl
@[simp] theorem e_chain {f g : D → D → R D} {a b c : EM} : cChain f g a b c ρ = (a ρ >>= fun p => b p.2 >>= fun q => (p.1.d q.2).nox >>= fun x => (q.1.d q.2).nox >>= fun y => (f x y).nox >>= fun z => match z with | .bl k => if k = true then (c q.2 >>= fun r => (q.1.d r.2).nox >>= fun y => (r.1.d r.2).nox >>= fun w => (g y w).nox >>= fun z => R.ok (.fr z, r.2)) else .ok (.fr (.bl false), q.2) | _ => .stk) := id rfl
@[simp] theorem e_neg {m : EM} : cNeg m ρ = (m ρ >>= fun p => p.1.v.nox >>= fun d => match d with | .int i => R.ok (.fr (.int (-i)), p.2) | _ => .stk) := id rfl
@[simp] theorem e_tup {m : AM} : cTup m ρ = (m ρ >>= fun p => (vsOf p.1).nox >>= fun ds => if szOk ds.length = true then R.ok (.fr (.tup ds), p.2) else .stk) := id rfl
@[simp] theorem e_lst {m : AM} : cLst m ρ = (m ρ >>= fun p => (vsOf p.1).nox >>= fun ds => if szOk ds.length = true then R.ok (.fr (.lst ds), p.2) else .stk) := id rfl
@[simp] theorem e_call {f : List D → R D} {m : AM} : cCall f m ρ = (m ρ >>= fun p => (dsOf p.1 p.2).nox >>= fun ds => (f ds).nox >>= fun z => R.ok (.fr z, p.2)) := id rfl
@[simp] theorem e_ix {a b : EM} : cIx a b ρ = (a ρ >>= fun p => b p.2 >>= fun q => (p.1.d q.2).nox >>= fun x => (q.1.d q.2).nox >>= fun y => (ixD x y).nox >>= fun z => R.ok (.vl z, q.2)) := id rfl
@[simp] theorem e_nopart : cNoPart ρ = .ok (none, ρ) := id rfl
@[simp] theorem e_part {m : EM} : cPart m ρ = (m ρ >>= fun p => p.1.v.nox >>= fun d => match d with | .int i => R.ok (some i, p.2) | _ => .stk) := id rfl
@[simp] theorem e_slice {a : EM} {lo hi : OM} : cSlice a lo hi ρ = (a ρ >>= fun p => lo p.2 >>= fun q => hi q.2 >>= fun r => (p.1.d r.2).nox >>= fun d => (sliceD d q.1 r.1).nox >>= fun z => R.ok (.fr z, r.2)) := id rfl
@[simp] theorem e_iter {m : EM} : cIter m ρ = (m ρ >>= fun p => (p.1.d p.2).nox >>= fun d => (itD d).nox >>= fun ds => if szOk ds.length = true then R.ok ((ds, p.1.ws), p.2) else .stk) := id rfl
@[simp] theorem e_range {f : List D → R (List D)} {m : AM} : cRange f m ρ = (m ρ >>= fun p => (vsOf p.1).nox >>= fun ds => (f ds).nox >>= fun xs => if szOk xs.length = true then R.ok ((xs, []), p.2) else .stk) := id rfl
@[simp] theorem e_yes : cYes ρ = .ok (true, ρ) := id rfl
@[simp] theorem e_isi {f : D → Bool} {m : EM} : cIsi f m ρ = (m ρ >>= fun p => (p.1.d p.2).nox >>= fun d => if (noDit d || isFt d) = true then R.ok (.fr (.bl (f d)), p.2) else .stk) := id rfl
@[simp] theorem e_callF {g : List D → R Hd} {m : AM} : cCallF g m ρ = (m ρ >>= fun p => (vsOf p.1).nox >>= fun ds => g ds >>= fun h => match h with | .ow _ => .stk | h => R.ok (h, p.2)) := id rfl
@[simp] theorem e_callIO {pr : List (Nat × Nat)} {g : Fn} {m : AM} : cCallIO pr g m ρ = (m ρ >>= fun p => if placed pr 0 p.1 = true then ((dsOf p.1 p.2).nox >>= fun ds => g ds >>= fun r => match r.1 with | .ow _ => .stk | h => R.ok (h, putOuts r.2 pr p.2)) else .stk) := id rfl
@[simp] theorem e_tmN {i : Nat} {d : D} : tmName i d ρ = .ok (ρ.set i (some d)) := id rfl
@[simp] theorem e_tmT {is : List Nat} {ds : List D} : tmTup is (.tup ds) ρ = if ds.length = is.length then .ok (setAll ρ is ds) else .stk := id rfl
@[simp] theorem e_sa0 {ds : List D} : setAll ρ [] ds = ρ := by unfold setAll; rfl
@[simp] theorem e_sa1 {i : Nat} {is : List Nat} {d : D} {ds : List D} : setAll ρ (i :: is) (d :: ds) = setAll (ρ.set i (some d)) is ds := id rfl
@[simp] theorem e_comp {im : IM} {tm : GM} {t : BM} {e : EM} {vs : List Nat} : cComp im tm t e vs ρ = (im ρ >>= fun p => (cCompL tm t e vs p.1.2 p.1.1 (wipeE p.2 vs)).nox >>= fun q => R.ok (.fr (.lst q.1), q.2)) := id rfl
@[simp] theorem e_skip : sSkip ρ = .ok (.nx, ρ) := id rfl
@[simp] theorem e_seq {m n : SM} : sSeq m n ρ = (m ρ >>= fun p => match p.1 with | .nx => n p.2 | f => R.ok (f, p.2)) := by
  unfold sSeq; congr
@[simp] theorem e_ret {m : EM} : sRet m ρ = (m ρ >>= fun p => R.ok (.rt p.1, p.2)) := id rfl
@[simp] theorem e_sif {t : BM} {m n : SM} : sIf t m n ρ = (t ρ >>= fun p => if p.1 = true then m p.2 else n p.2) := id rfl
@[simp] theorem e_asg {m : EM} {tm : GM} : sAsg m tm ρ = (m ρ >>= fun p => p.1.v.nox >>= fun d => (tm d p.2).nox >>= fun r => R.ok (.nx, r)) := id rfl
@[simp] theorem e_sown {O W : List Nat} {m : EM} {i : Nat} : sOwn O W m i ρ = (m ρ >>= fun p => match p.1 with | .fr d => ((chkO O W ρ p.2).nox >>= fun _ => if d.ownable = true then R.ok (.nx, p.2.set i (some d)) else .stk) | _ => .stk) := by
  unfold sOwn; congr
@[simp] theorem e_app {i : Nat} {m : EM} : sAppend i m ρ = ((lstAt i ρ).nox >>= fun _ => m ρ >>= fun p => p.1.v.nox >>= fun d => (lstAt i p.2).nox >>= fun ds => if szOk (ds.length + 1) = true then R.ok (.nx, p.2.set i (some (.lst (ds ++ [d])))) else .stk) := id rfl
@[simp] theorem e_lat {i : Nat} : lstAt i ρ = (match ρ[i]? with | some (some (.lst ds)) => .ok ds | _ => .stk) := id rfl
@[simp] theorem e_six {i : Nat} {mk mv : EM} : sSetIx i mk mv ρ = (mv ρ >>= fun p => p.1.v.nox >>= fun d => (lstAt i p.2).nox >>= fun _ => mk p.2 >>= fun q => q.1.v.nox >>= fun k => match k with | .int z => ((lstAt i q.2).nox >>= fun ds => match ixN ds.length z with | some j => R.ok (.nx, q.2.set i (some (.lst (ds.set j d)))) | none => .stk) | _ => .stk) := by
  unfold sSetIx; congr
@[simp] theorem e_expr {m : EM} : sExpr m ρ = (m ρ >>= fun p => R.ok (.nx, p.2)) := id rfl
@[simp] theorem e_for {U : List Nat} {im : IM} {tm : GM} {body : SM} {vs : List Nat} : sFor U im tm body vs ρ = (im ρ >>= fun p => if (p.1.2.all fun w => U.contains w) = true then forL tm body vs p.1.2 p.1.1 p.2 else .stk) := id rfl
@[simp] theorem e_w0 : wipeE ρ [] = ρ := id rfl
@[simp] theorem e_w1 {i : Nat} {is : List Nat} : wipeE ρ (i :: is) = (wipeE ρ is).set i none := id rfl
@[simp] theorem e_po0 {os : Env} : putOuts os [] ρ = ρ := id rfl
@[simp] theorem e_po1 {os : Env} {j i : Nat} {pr : List (Nat × Nat)} : putOuts os ((j, i) :: pr) ρ = (putOuts os pr ρ).set i (os.getD j none) := id rfl
@[simp] theorem e_pl0 {pr : List (Nat × Nat)} {j : Nat} : placed pr j [] = true := id rfl
@[simp] theorem e_pl1 {pr : List (Nat × Nat)} {j i : Nat} {hs : List Hd} : placed pr j (.ow i :: hs) = (pr.contains (j, i) && placed pr (j + 1) hs) := id rfl
@[simp] theorem e_pl2 {pr : List (Nat × Nat)} {j : Nat} {d : D} {hs : List Hd} : placed pr j (.vl d :: hs) = ((!pr.any fun p => p.1 == j) && placed pr (j + 1) hs) := id rfl
@[simp] theorem e_pl3 {pr : List (Nat × Nat)} {j : Nat} {d : D} {hs : List Hd} : placed pr j (.fr d :: hs) = ((!pr.any fun p => p.1 == j) && placed pr (j + 1) hs) := id rfl
@[simp] theorem e_rt0 {np : Nat} : retH np .nx ρ = .ok (.fr .non) := id rfl
@[simp] theorem e_rt1 {np : Nat} {d : D} : retH np (.rt (.fr d)) ρ = .ok (.fr d) := id rfl
@[simp] theorem e_rt2 {np : Nat} {d : D} : retH np (.rt (.vl d)) ρ = .ok (.vl d) := id rfl
@[simp] theorem e_rt3 {np i : Nat} : retH np (.rt (.ow i)) ρ = if np ≤ i then ((look i ρ).nox >>= fun d => R.ok (.fr d)) else .stk := id rfl
theorem e_fnP {np n : Nat} {m : SM} {ds : List D} : fnP np n m ds = (m (ds.map some ++ List.replicate (n - np) none) >>= fun p => (retH np p.1 p.2).nox) := rfl
theorem e_fnD {np n : Nat} {O : List Nat} {m : SM} {ds : List D} : fnD np n O m ds = (m (ds.map some ++ List.replicate (n - np) none) >>= fun p => (retH np p.1 p.2).nox >>= fun h => R.ok (h, outs O np p.2)) := rfl
@[simp] theorem e_outs1 {O : List Nat} : outs O 1 ρ = [if O.contains 0 = true then ρ.getD 0 none else none] := id rfl
@[simp] theorem e_outs2 {O : List Nat} : outs O 2 ρ = [if O.contains 0 = true then ρ.getD 0 none else none, if O.contains 1 = true then ρ.getD 1 none else none] := id rfl
@[simp] theorem e_outs3 {O : List Nat} : outs O 3 ρ = [if O.contains 0 = true then ρ.getD 0 none else none, if O.contains 1 = true then ρ.getD 1 none else none, if O.contains 2 = true then ρ.getD 2 none else none] := id rfl
@[simp] theorem e_outs4 {O : List Nat} : outs O 4 ρ = [if O.contains 0 = true then ρ.getD 0 none else none, if O.contains 1 = true then ρ.getD 1 none else none, if O.contains 2 = true then ρ.getD 2 none else none, if O.contains 3 = true then ρ.getD 3 none else none] := id rfl
@[simp] theorem e_outs5 {O : List Nat} : outs O 5 ρ = [if O.contains 0 = true then ρ.getD 0 none else none, if O.contains 1 = true then ρ.getD 1 none else none, if O.contains 2 = true then ρ.getD 2 none else none, if O.contains 3 = true then ρ.getD 3 none else none, if O.contains 4 = true then ρ.getD 4 none else none] := id rfl
end Y

set_option Elab.async false
set_option linter.all false
set_option maxRecDepth 100000
namespace Y
open PySem PySem.Spec PyProof.Rows L2
@[simp] theorem d_add {i j : Int} : addD (.int i) (.int j) = .ok (.int (i + j)) := id rfl
@[simp] theorem d_addT {x y : List D} : addD (.tup x) (.tup y) = if szOk (x.length + y.length) = true then .ok (.tup (x ++ y)) else .stk := id rfl
@[simp] theorem d_addL {x y : List D} : addD (.lst x) (.lst y) = if szOk (x.length + y.length) = true then .ok (.lst (x ++ y)) else .stk := id rfl
@[simp] theorem d_addS {x y : Str} : addD (.str x) (.str y) = if szOk (x.length + y.length) = true then .ok (.str (x ++ y)) else .stk := id rfl
@[simp] theorem d_sub {i j : Int} : subD (.int i) (.int j) = .ok (.int (i - j)) := id rfl
@[simp] theorem d_mul {i j : Int} : mulD (.int i) (.int j) = if mulOk i j = true then .ok (.int (i * j)) else .stk := id rfl
@[simp] theorem d_fdiv {i j : Int} : fdivD (.int i) (.int j) = if smallPos j = true then .ok (.int (i / j)) else .stk := id rfl
@[simp] theorem d_mod {i j : Int} : modD (.int i) (.int j) = if 0 < j then .ok (.int (i % j)) else .stk := id rfl
@[simp] theorem d_lt {i j : Int} : ltD (.int i) (.int j) = .ok (.bl (decide (i < j))) := id rfl
@[simp] theorem d_le {i j : Int} : leD (.int i) (.int j) = .ok (.bl (decide (i ≤ j))) := id rfl
@[simp] theorem d_gt {i j : Int} : gtD (.int i) (.int j) = .ok (.bl (decide (j < i))) := id rfl
@[simp] theorem d_ge {i j : Int} : geD (.int i) (.int j) = .ok (.bl (decide (j ≤ i))) := id rfl
@[simp] theorem d_isN {x : D} : isD x .non = .ok (.bl (isNon x)) := by cases x <;> rfl
@[simp] theorem d_isB {a b : Bool} : isD (.bl a) (.bl b) = .ok (.bl (decide (a = b))) := id rfl
@[simp] theorem d_isnN {x : D} : isNotD x .non = .ok (.bl (!isNon x)) := by cases x <;> rfl
@[simp] theorem d_isnB {a b : Bool} : isNotD (.bl a) (.bl b) = .ok (.bl (!decide (a = b))) := id rfl
@[simp] theorem d_lenT {x : List D} : lenD [.tup x] = .ok (.int x.length) := id rfl
@[simp] theorem d_lenL {x : List D} : lenD [.lst x] = .ok (.int x.length) := id rfl
@[simp] theorem d_lenA {x : List Int} : lenD [.arg x] = .ok (.int x.length) := id rfl
@[simp] theorem d_lenS {x : Str} : lenD [.str x] = if szOk x.length = true then .ok (.int x.length) else .stk := id rfl
@[simp] theorem d_max {i j : Int} : max2D [.int i, .int j] = .ok (.int (max i j)) := id rfl
@[simp] theorem d_min {i j : Int} : min2D [.int i, .int j] = .ok (.int (min i j)) := id rfl
@[simp] theorem d_tupL {x : List D} : tupleD [.lst x] = .ok (.tup x) := id rfl
@[simp] theorem d_tupT {x : List D} : tupleD [.tup x] = .ok (.tup x) := id rfl
@[simp] theorem d_lstL {x : List D} : listD [.lst x] = .ok (.lst x) := id rfl
@[simp] theorem d_lstT {x : List D} : listD [.tup x] = .ok (.lst x) := id rfl
@[simp] theorem d_intI {i : Int} : intOfD [.int i] = .ok (.int i) := id rfl
@[simp] theorem d_intB {k : Bool} : intOfD [.bl k] = .ok (.int (if k then 1 else 0)) := id rfl
@[simp] theorem d_ixT {x : List D} {i : Int} : ixD (.tup x) (.int i) = match atI x i with | some d => .ok d | none => .stk := id rfl
@[simp] theorem d_ixL {x : List D} {i : Int} : ixD (.lst x) (.int i) = match atI x i with | some d => .ok d | none => .stk := id rfl
@[simp] theorem d_ixA {x : List Int} {i : Int} : ixD (.arg x) (.int i) = match atI x i with | some n => .ok (.int n) | none => .stk := id rfl
@[simp] theorem d_slT {x : List D} {a b : Option Int} : sliceD (.tup x) a b = .ok (.tup (cutD x a b)) := id rfl
@[simp] theorem d_slL {x : List D} {a b : Option Int} : sliceD (.lst x) a b = .ok (.lst (cutD x a b)) := id rfl
@[simp] theorem d_itL {x : List D} : itD (.lst x) = .ok x := id rfl
@[simp] theorem d_itT {x : List D} : itD (.tup x) = .ok x := id rfl
@[simp] theorem d_itA {x : List Int} : itD (.arg x) = .ok (x.map D.int) := id rfl
@[simp] theorem d_rng1 {j : Int} : rng1D [.int j] = if rngOk j = true then .ok ((List.range j.toNat).map fun i => D.int (i : Nat)) else .stk := by
  show (if rngOk j = true then R.ok ((List.range j.toNat).map fun i => D.int (0 + (i : Nat))) else .stk) = _
  simp
@[simp] theorem d_rng2 {i j : Int} : rng2D [.int i, .int j] = if (rngOk i && rngOk j) = true then .ok ((List.range (j - i).toNat).map fun k => D.int (i + (k : Nat))) else .stk := id rfl
@[simp] theorem d_truB {b : Bool} : truD (.bl b) = .ok b := id rfl
@[simp] theorem d_truN : truD .non = .ok false := id rfl
@[simp] theorem d_truI {i : Int} : truD (.int i) = .ok (i != 0) := id rfl
@[simp] theorem d_truL {x : List D} : truD (.lst x) = .ok (!x.isEmpty) := id rfl
@[simp] theorem d_truT {x : List D} : truD (.tup x) = .ok (!x.isEmpty) := id rfl
theorem ints_map : ∀ xs : List Int, intsOf (xs.map .int) = some xs
  | [] => rfl
  | x :: xs => by simp [intsOf, ints_map xs]
theorem bls_map : ∀ xs : List Bool, blsOf (xs.map .bl) = some xs
  | [] => rfl
  | x :: xs => by simp [blsOf, bls_map xs]
@[simp] theorem d_sum {xs : List Int} : sumD [.lst (xs.map .int)] = .ok (.int xs.sum) := by
  show (match intsOf (xs.map .int) with | some ns => R.ok (D.int ns.sum) | none => .stk) = _
  rw [ints_map]
@[simp] theorem d_all {xs : List Bool} : allD [.lst (xs.map .bl)] = .ok (.bl (xs.all id)) := by
  show (match blsOf (xs.map .bl) with | some ns => R.ok (D.bl (ns.all id)) | none => .stk) = _
  rw [bls_map]
@[simp] theorem d_any {xs : List Bool} : anyD [.lst (xs.map .bl)] = .ok (.bl (xs.any id)) := by
  show (match blsOf (xs.map .bl) with | some ns => R.ok (D.bl (ns.any id)) | none => .stk) = _
  rw [bls_map]
@[simp] theorem d_isNon {x : D} : isNon .non = true := id rfl
theorem szOk_of {n : Nat} (h : n ≤ 16777216) : szOk n = true := decide_eq_true (show n ≤ sizeLine from by unfold sizeLine; omega)
theorem smallPos_of {j : Int} (h : 0 < j) (h2 : j < 1073741824) : smallPos j = true := decide_eq_true ⟨h, h2⟩
theorem rngOk_of {j : Int} (h : -4611686018427387904 ≤ j) (h2 : j < 4611686018427387904) : rngOk j = true := decide_eq_true ⟨by omega, by omega⟩
theorem mulOk_l {i j : Int} (h : i.natAbs < 2 ^ 64) : mulOk i j = true := by
  unfold mulOk
  rw [decide_eq_true h]
  rfl
theorem mulOk_r {i j : Int} (h : j.natAbs < 2 ^ 64) : mulOk i j = true := by
  unfold mulOk
  rw [decide_eq_true h]
  simp
@[simp] theorem sz0 : szOk 0 = true := by decide
@[simp] theorem sz1 : szOk 1 = true := by decide
@[simp] theorem sz2 : szOk 2 = true := by decide
@[simp] theorem sz3 : szOk 3 = true := by decide
theorem atI_of {α : Type} {xs : List α} {i : Int} {j : Nat} {x : α} (hi : i = j) (h : xs[j]? = some x) : atI xs i = some x := by
  have hj : j < xs.length := (List.getElem?_eq_some_iff.mp h).1
  unfold atI ixN
  subst hi
  rw [if_pos (by omega), if_pos (by omega)]
  show xs[(j : Int).toNat]? = some x
  rw [Int.toNat_natCast, h]
theorem atI_lt {α : Type} {xs : List α} {i : Int} (h0 : 0 ≤ i) (h : i < xs.length) : atI xs i = some (xs[i.toNat]'(by omega)) :=
  atI_of (j := i.toNat) (by omega) (List.getElem?_eq_getElem (by omega))
def eqPs : List D → List D → Bool
  | [], [] => true
  | x :: xs, y :: ys => eqP x y && eqPs xs ys
  | _, _ => false
theorem eqPs_py : ∀ xs ys : List D, PyData.eqvAll (toPys xs) (toPys ys) = eqPs xs ys
  | [], [] => by simp [toPys, PyData.eqvAll, eqPs]
  | [], _ :: _ => by simp [toPys, PyData.eqvAll, eqPs]
  | _ :: _, [] => by simp [toPys, PyData.eqvAll, eqPs]
  | x :: xs, y :: ys => by simp [toPys, PyData.eqvAll, eqPs, eqP, eqPs_py xs ys]
@[simp] theorem eqP_int {i j : Int} : eqP (.int i) (.int j) = (i == j) := by simp [eqP, toPy, PyData.eqv]
@[simp] theorem eqP_bl {i j : Bool} : eqP (.bl i) (.bl j) = (i == j) := by simp [eqP, toPy, PyData.eqv]
@[simp] theorem eqP_str {i j : Str} : eqP (.str i) (.str j) = (i == j) := by simp [eqP, toPy, PyData.eqv]
@[simp] theorem eqP_tup {xs ys : List D} : eqP (.tup xs) (.tup ys) = eqPs xs ys := by simp [eqP, toPy, PyData.eqv, eqPs_py]
@[simp] theorem eqP_lst {xs ys : List D} : eqP (.lst xs) (.lst ys) = eqPs xs ys := by simp [eqP, toPy, PyData.eqv, eqPs_py]
@[simp] theorem eqPs_ints : ∀ {xs ys : List Int}, eqPs (xs.map .int) (ys.map .int) = decide (xs = ys)
  | [], [] => by simp [eqPs]
  | [], _ :: _ => by simp [eqPs]
  | _ :: _, [] => by simp [eqPs]
  | x :: xs, y :: ys => by
    have ih := eqPs_ints (xs := xs) (ys := ys)
    simp only [List.map_cons, eqPs, eqP_int, ih, List.cons.injEq]
    by_cases h : x = y <;> simp [h]
/-- a depth that the machine bears; no dict; texts that it bears -/
def Fit : Nat → D → Prop
  | _, .non => True
  | _, .bl _ => True
  | _, .int _ => True
  | _, .str x => PyData.strOk x = true
  | n + 1, .tup ds => ∀ d ∈ ds, Fit n d
  | n + 1, .lst ds => ∀ d ∈ ds, Fit n d
  | n + 1, .ftu ds => ∀ d ∈ ds, Fit n d
  | _, _ => False
theorem fits_py {n : Nat} : ∀ {ds : List D}, (∀ d ∈ ds, (toPy d).canLay0 = true ∧ (toPy d).depth ≤ n) → PyData.canLayAll0 (toPys ds) = true ∧ PyData.depthAll (toPys ds) ≤ n
  | [], _ => by simp [toPys, PyData.canLayAll0, PyData.depthAll]
  | d :: ds, h => by
    have h1 := h d (by simp)
    have h2 := fits_py (ds := ds) fun e he => h e (by simp [he])
    simp only [toPys, PyData.canLayAll0, PyData.depthAll, h1.1, h2.1, Bool.and_self, true_and]
    omega
theorem fit_py : ∀ {n : Nat} {d : D}, Fit n d → (toPy d).canLay0 = true ∧ (toPy d).depth ≤ n
  | n, .non, _ => by simp [toPy, PyData.canLay0, PyData.depth]
  | n, .bl _, _ => by simp [toPy, PyData.canLay0, PyData.depth]
  | n, .int _, _ => by simp [toPy, PyData.canLay0, PyData.depth]
  | n, .str x, h => by
    have h : PyData.strOk x = true := by cases n <;> exact h
    simp [toPy, PyData.canLay0, PyData.depth, h]
  | 0, .tup ds, h => h.elim
  | 0, .lst ds, h => h.elim
  | n + 1, .tup ds, h => by
    have h : ∀ d ∈ ds, Fit n d := h
    have := fits_py fun d hd => fit_py (h d hd)
    simp only [toPy, PyData.canLay0, PyData.depth, this.1, true_and]
    omega
  | n + 1, .lst ds, h => by
    have h : ∀ d ∈ ds, Fit n d := h
    have := fits_py fun d hd => fit_py (h d hd)
    simp only [toPy, PyData.canLay0, PyData.depth, this.1, true_and]
    omega
  | 0, .ftu ds, h => h.elim
  | n + 1, .ftu ds, h => by
    have h : ∀ d ∈ ds, Fit n d := h
    have := fits_py fun d hd => fit_py (h d hd)
    simp only [toPy, PyData.canLay0, PyData.depth, this.1, true_and]
    omega
  | n, .arg _, h => by cases n <;> exact h.elim
  | n, .dik _ _, h => by cases n <;> exact h.elim
  | n, .dit _ _, h => by cases n <;> exact h.elim
  | n, .tab _ _, h => by cases n <;> exact h.elim
theorem dOk_fit {n : Nat} {d : D} (h : Fit n d) (hn : n ≤ 64 := by decide) : dOk d = true := by
  have := fit_py h
  unfold dOk SeqAt.shaped
  rw [this.1, decide_eq_true (by omega)]
  rfl
theorem fit_ints {n : Nat} {xs : List Int} : ∀ d ∈ xs.map D.int, Fit n d := fun d h => by
  obtain ⟨x, _, rfl⟩ := List.mem_map.mp h
  cases n <;> trivial
theorem fit_int {n : Nat} {i : Int} : Fit n (.int i) := by cases n <;> trivial
theorem fit_bl {n : Nat} {i : Bool} : Fit n (.bl i) := by cases n <;> trivial
theorem fit_tupI {n : Nat} {xs : List Int} : Fit (n + 1) (.tup (xs.map D.int)) := fit_ints
theorem fit_lstI {n : Nat} {xs : List Int} : Fit (n + 1) (.lst (xs.map D.int)) := fit_ints
theorem eqD_of {n : Nat} {x y : D} (hx : Fit n x) (hy : Fit n y) (hn : n ≤ 64 := by decide) : eqD x y = .ok (.bl (eqP x y)) := by
  unfold eqD
  rw [dOk_fit hx hn, dOk_fit hy hn]
  rfl
theorem neD_of {n : Nat} {x y : D} (hx : Fit n x) (hy : Fit n y) (hn : n ≤ 64 := by decide) : neD x y = .ok (.bl (!eqP x y)) := by
  unfold neD
  rw [dOk_fit hx hn, dOk_fit hy hn]
  rfl
@[simp] theorem eqD_int {i j : Int} : eqD (.int i) (.int j) = .ok (.bl (decide (i = j))) := by
  rw [eqD_of (n := 0) (by unfold Fit; trivial) (by unfold Fit; trivial), eqP_int]
  by_cases h : i = j <;> simp [h]
@[simp] theorem neD_int {i j : Int} : neD (.int i) (.int j) = .ok (.bl (!decide (i = j))) := by
  rw [neD_of (n := 0) (by unfold Fit; trivial) (by unfold Fit; trivial), eqP_int]
  by_cases h : i = j <;> simp [h]
theorem eqPs_refl : ∀ {ds : List D}, (∀ d ∈ ds, eqP d d = true) → eqPs ds ds = true
  | [], _ => rfl
  | d :: ds, h => by simp [eqPs, h d (by simp), eqPs_refl (ds := ds) fun e he => h e (by simp [he])]
theorem eqP_refl : ∀ {n : Nat} {d : D}, Fit n d → eqP d d = true
  | n, .non, _ => by simp [eqP, toPy, PyData.eqv]
  | n, .bl _, _ => by simp
  | n, .int _, _ => by simp
  | n, .str x, h => by simp
  | 0, .tup ds, h => h.elim
  | 0, .lst ds, h => h.elim
  | n + 1, .tup ds, h => by
    have h : ∀ d ∈ ds, Fit n d := h
    rw [eqP_tup]
    exact eqPs_refl fun d hd => eqP_refl (h d hd)
  | n + 1, .lst ds, h => by
    have h : ∀ d ∈ ds, Fit n d := h
    rw [eqP_lst]
    exact eqPs_refl fun d hd => eqP_refl (h d hd)
  | 0, .ftu ds, h => h.elim
  | n + 1, .ftu ds, h => by
    have h : ∀ d ∈ ds, Fit n d := h
    rw [show eqP (.ftu ds) (.ftu ds) = eqPs ds ds from eqP_tup]
    exact eqPs_refl fun d hd => eqP_refl (h d hd)
  | n, .arg _, h => by cases n <;> exact h.elim
  | n, .dik _ _, h => by cases n <;> exact h.elim
  | n, .dit _ _, h => by cases n <;> exact h.elim
  | n, .tab _ _, h => by cases n <;> exact h.elim
theorem eqD_refl {n : Nat} {x : D} (hx : Fit n x) (hn : n ≤ 64 := by decide) : eqD x x = .ok (.bl true) := by rw [eqD_of hx hx hn, eqP_refl hx]
theorem neD_refl {n : Nat} {x : D} (hx : Fit n x) (hn : n ≤ 64 := by decide) : neD x x = .ok (.bl false) := by rw [neD_of hx hx hn, eqP_refl hx]; rfl
def ChkL (O W : List Nat) : Nat → Env → Env → Prop
  | _, _, [] => True
  | j, x :: xs, y :: ys => (y = none ∨ (y = x ∧ j ∉ W) ∨ (∃ d, y = some d ∧ ((j ∈ O ∧ d.shallow = true) ∨ d.nl = true))) ∧ ChkL O W (j + 1) xs ys
  | _, [], _ :: _ => False
theorem ChkL.at {O W : List Nat} : ∀ {ρ ρ' : Env} {k j : Nat} {d : D}, ChkL O W k ρ ρ' → ρ'[j]? = some (some d) → (ρ[j]? = some (some d) ∧ k + j ∉ W) ∨ (k + j ∈ O ∧ d.shallow = true) ∨ d.nl = true
  | _, [], _, _, _, _, e => by simp at e
  | [], _ :: _, _, _, _, h, _ => h.elim
  | x :: xs, y :: ys, k, 0, d, h, e => by
    simp at e
    subst e
    rcases h.1 with h | ⟨h, w⟩ | ⟨d', h, w⟩
    · cases h
    · exact .inl ⟨by simp [h], w⟩
    · cases h; exact .inr w
  | x :: xs, y :: ys, k, j + 1, d, h, e => by
    have := ChkL.at (j := j) h.2 (by simpa using e)
    rw [show k + (j + 1) = k + 1 + j by omega]
    simpa using this
@[simp] theorem e_wsf {d : D} : Hd.ws (.fr d) = [] := id rfl
@[simp] theorem e_wsv {d : D} : Hd.ws (.vl d) = [] := id rfl
@[simp] theorem e_wso {i : Nat} : Hd.ws (.ow i) = [i] := id rfl
def shAt (i : Nat) (ρ : Y.Env) : Bool := match ρ[i]? with | some (some d) => d.shallow | _ => true
@[simp] theorem chkO_w1 {O : List Nat} {i : Nat} {ρ : Y.Env} (hi : i ∈ O) (h : shAt i ρ = true) : chkO O [i] ρ ρ = .ok () := by
  unfold chkO
  rw [if_pos]
  intro j d e
  by_cases c : j = i
  · subst c
    unfold shAt at h
    rw [e] at h
    exact .inr (.inl ⟨hi, h⟩)
  · exact .inl ⟨e, by simpa using c⟩
@[simp] theorem shL {ds : List D} : D.shallow (.lst ds) = nls ds := id rfl
@[simp] theorem nls0 : nls [] = true := by simp [nls]
@[simp] theorem nls1 {d : D} {ds : List D} : nls (d :: ds) = (d.nl && nls ds) := by simp [nls]
@[simp] theorem nlI {i : Int} : D.nl (.int i) = true := by simp [D.nl]
@[simp] theorem nlB {i : Bool} : D.nl (.bl i) = true := by simp [D.nl]
@[simp] theorem nlS {i : Str} : D.nl (.str i) = true := by simp [D.nl]
@[simp] theorem nlN : D.nl .non = true := by simp [D.nl]
@[simp] theorem nlT {ds : List D} : D.nl (.tup ds) = nls ds := by simp [D.nl]
@[simp] theorem owL {ds : List D} : D.ownable (.lst ds) = true := id rfl
theorem nls_all : ∀ {ds : List D}, (∀ d ∈ ds, d.nl = true) → nls ds = true
  | [], _ => by simp
  | d :: ds, h => by simp [h d (by simp), nls_all fun e he => h e (List.mem_cons_of_mem _ he)]
@[simp] theorem nls_ints {xs : List Int} : nls (xs.map D.int) = true := nls_all fun d h => by
  obtain ⟨x, _, rfl⟩ := List.mem_map.mp h
  simp
/-- one turn of a comprehension; of a for -/
def turnC (tm : GM) (t : BM) (e : EM) (vs : List Nat) (x : D) (ρ : Env) : R (Option D × Env) :=
  tm x ρ >>= fun ρ1 => t ρ1 >>= fun p => if p.1 = true then (e p.2 >>= fun q => q.1.v >>= fun d => R.ok (some d, wipeE q.2 vs)) else R.ok (none, wipeE p.2 vs)
def turnF (tm : GM) (body : SM) (vs : List Nat) (x : D) (ρ : Env) : R (Fl × Env) :=
  (tm x ρ).nox >>= fun ρ1 => body ρ1 >>= fun p => match p.1 with | .nx => R.ok (.nx, wipeE p.2 vs) | .ct => R.ok (.nx, wipeE p.2 vs) | f => R.ok (f, p.2)
theorem comp_cons {tm : GM} {t : BM} {e : EM} {vs ws : List Nat} {x : D} {xs ys : List D} {ρ ρ' ρf : Env} {o : Option D} (h : turnC tm t e vs x ρ = .ok (o, ρ')) (hw : ∀ w ∈ ws, ρ'[w]? = ρ[w]?) (h2 : cCompL tm t e vs ws xs ρ' = .ok (ys, ρf)) : cCompL tm t e vs ws (x :: xs) ρ = .ok (o.toList ++ ys, ρf) := by
  have ck : chk ws ρ ρ' = .ok () := by unfold chk; rw [if_pos hw]
  unfold turnC at h
  obtain ⟨ρ1, e1, h⟩ := R.ok_of h
  obtain ⟨⟨k, ρ2⟩, e3, h⟩ := R.ok_of h
  unfold cCompL
  rw [e1]
  simp only [R.bind_ok]
  rw [e3]
  cases k with
  | false =>
    have h : R.ok (none, wipeE ρ2 vs) = R.ok (o, ρ') := h
    cases h
    simp only [R.bind_ok, Bool.false_eq_true, if_false]
    rw [ck]
    exact h2
  | true =>
    have h : (e ρ2 >>= fun q => q.1.v >>= fun d => R.ok (some d, wipeE q.2 vs)) = R.ok (o, ρ') := h
    obtain ⟨⟨hd, ρ3⟩, e4, h⟩ := R.ok_of h
    obtain ⟨d, e5, h⟩ := R.ok_of h
    cases h
    simp only [R.bind_ok, if_true]
    rw [e4]
    simp only [R.bind_ok]
    rw [show hd.v = _ from e5]
    simp only [R.bind_ok]
    rw [ck]
    simp only [R.bind_ok]
    rw [h2]
    rfl
theorem for_cons {tm : GM} {body : SM} {vs ws : List Nat} {x : D} {xs : List D} {ρ ρ' : Env} {r : R (Fl × Env)} (h : turnF tm body vs x ρ = .ok (.nx, ρ')) (hw : ∀ w ∈ ws, ρ'[w]? = ρ[w]?) (h2 : forL tm body vs ws xs ρ' = r) : forL tm body vs ws (x :: xs) ρ = r := by
  have ck : chk ws ρ ρ' = .ok () := by unfold chk; rw [if_pos hw]
  unfold turnF at h
  obtain ⟨ρ1, e1, h⟩ := R.ok_of h
  obtain ⟨⟨f, ρ2⟩, e3, h⟩ := R.ok_of h
  unfold forL
  rw [e1]
  simp only [R.bind_ok]
  rw [e3]
  cases f with
  | nx =>
    have h : R.ok (Fl.nx, wipeE ρ2 vs) = R.ok (Fl.nx, ρ') := h
    cases h
    simp only [R.bind_ok]
    rw [ck]
    exact h2
  | ct =>
    have h : R.ok (Fl.nx, wipeE ρ2 vs) = R.ok (Fl.nx, ρ') := h
    cases h
    simp only [R.bind_ok]
    rw [ck]
    exact h2
  | bk => cases h
  | rt _ => cases h
/-- the loop ends in this turn -/
theorem for_rt {tm : GM} {body : SM} {vs ws : List Nat} {x : D} {xs : List D} {ρ ρ' : Env} {hd : Hd} (h : turnF tm body vs x ρ = .ok (.rt hd, ρ')) : forL tm body vs ws (x :: xs) ρ = .ok (.rt hd, ρ') := by
  unfold turnF at h
  obtain ⟨ρ1, e1, h⟩ := R.ok_of h
  obtain ⟨⟨f, ρ2⟩, e3, h⟩ := R.ok_of h
  unfold forL
  rw [e1]
  simp only [R.bind_ok]
  rw [e3]
  cases f with
  | nx => cases h
  | ct => cases h
  | bk => cases h
  | rt _ => cases h; rfl
section
variable {α : Type}
/-- the yields of a comprehension and the state behind it -/
def yields {S : Type} (next : S → α → S) (out : S → α → Option D) : List α → S → List D × S
  | [], s => ([], s)
  | x :: xs, s => ((out s x).toList ++ (yields next out xs (next s x)).1, (yields next out xs (next s x)).2)
/-- a comprehension that changes nothing: f is what it yields -/
theorem comp_map {tm : GM} {t : BM} {e : EM} {vs ws : List Nat} {ρ : Env} (F f : α → D) : ∀ (xs : List α),
    (∀ x ∈ xs, turnC tm t e vs (F x) ρ = .ok (some (f x), ρ)) → cCompL tm t e vs ws (xs.map F) ρ = .ok (xs.map f, ρ)
  | [], _ => rfl
  | x :: xs, h => comp_cons (h x (by simp)) (fun _ _ => rfl) (comp_map F f xs fun y hy => h y (by simp [hy]))
/-- .. with a test p, yields f -/
theorem comp_filter {tm : GM} {t : BM} {e : EM} {vs ws : List Nat} {ρ : Env} (F : α → D) (p : α → Bool) (f : α → D) : ∀ (xs : List α),
    (∀ x ∈ xs, turnC tm t e vs (F x) ρ = .ok (if p x = true then some (f x) else none, ρ)) → cCompL tm t e vs ws (xs.map F) ρ = .ok ((xs.filter p).map f, ρ)
  | [], _ => rfl
  | x :: xs, h => by
    have := comp_cons (ws := ws) (h x (by simp)) (fun _ _ => rfl) (comp_filter F p f xs fun y hy => h y (by simp [hy]))
    rw [List.map_cons, this]
    cases hp : p x with
    | false => rw [List.filter_cons_of_neg (by simp [hp])]; rfl
    | true => rw [List.filter_cons_of_pos hp]; rfl
/-- for: states -/
theorem for_run {S : Type} {tm : GM} {body : SM} {vs ws : List Nat} (F : α → D) (rho : S → Env) (next : S → α → S) (I : S → Prop) : ∀ (xs : List α) (s : S), I s →
    (∀ s x, I s → x ∈ xs → I (next s x) ∧ (∀ w ∈ ws, (rho (next s x))[w]? = (rho s)[w]?) ∧ turnF tm body vs (F x) (rho s) = .ok (.nx, rho (next s x))) →
    forL tm body vs ws (xs.map F) (rho s) = .ok (.nx, rho (xs.foldl next s)) ∧ I (xs.foldl next s)
  | [], s, hs, _ => ⟨rfl, hs⟩
  | x :: xs, s, hs, h => by
    obtain ⟨h1, hw, h2⟩ := h s x hs (by simp)
    have ih := for_run F rho next I xs (next s x) h1 fun s y hs hy => h s y hs (by simp [hy])
    exact ⟨for_cons h2 hw ih.1, ih.2⟩
/-- for: something that holds of what stands -/
theorem for_inv {tm : GM} {body : SM} {vs ws : List Nat} (F : α → D) (I : Env → Prop) : ∀ (xs : List α) (ρ : Env), I ρ →
    (∀ ρ x, I ρ → x ∈ xs → ∃ ρ', turnF tm body vs (F x) ρ = .ok (.nx, ρ') ∧ I ρ' ∧ (∀ w ∈ ws, ρ'[w]? = ρ[w]?)) →
    ∃ ρ', forL tm body vs ws (xs.map F) ρ = .ok (.nx, ρ') ∧ I ρ'
  | [], ρ, hs, _ => ⟨ρ, rfl, hs⟩
  | x :: xs, ρ, hs, h => by
    obtain ⟨ρ1, e1, e3, hw⟩ := h ρ x hs (by simp)
    obtain ⟨ρ', e4, h4⟩ := for_inv (body := body) (tm := tm) (ws := ws) F I xs ρ1 e3 fun s y hs hy => h s y hs (by simp [hy])
    exact ⟨ρ', for_cons e1 hw e4, h4⟩
/-- for: by the turn's number -/
theorem for_idx {tm : GM} {body : SM} {vs ws : List Nat} (F : α → D) : ∀ (xs : List α) (rho : Nat → Env),
    (∀ i (h : i < xs.length), (∀ w ∈ ws, (rho (i + 1))[w]? = (rho i)[w]?) ∧ turnF tm body vs (F xs[i]) (rho i) = .ok (.nx, rho (i + 1))) → forL tm body vs ws (xs.map F) (rho 0) = .ok (.nx, rho xs.length)
  | [], rho, _ => rfl
  | x :: xs, rho, h => by
    have h0 := h 0 (by simp)
    have ih := for_idx F xs (fun i => rho (i + 1)) fun i hi => h (i + 1) (by simp; omega)
    exact for_cons h0.2 h0.1 ih
theorem for_rng {tm : GM} {body : SM} {vs ws : List Nat} {n : Nat} (F : Nat → D) (rho : Nat → Env) (h : ∀ i, i < n → (∀ w ∈ ws, (rho (i + 1))[w]? = (rho i)[w]?) ∧ turnF tm body vs (F i) (rho i) = .ok (.nx, rho (i + 1))) : forL tm body vs ws ((List.range n).map F) (rho 0) = .ok (.nx, rho n) := by
  have := for_idx (tm := tm) (body := body) (vs := vs) (ws := ws) F (List.range n) rho fun i hi => by
    rw [List.getElem_range]
    exact h i (by simpa using hi)
  rwa [List.length_range] at this
/-- a comprehension whose turns change what stands: something of each yield -/
theorem comp_ex {S β : Type} {tm : GM} {t : BM} {e : EM} {vs ws : List Nat} (F : α → D) (G : β → D) (rho : S → Env) (P : β → Prop) : ∀ (xs : List α) (s : S),
    (∀ s x, x ∈ xs → ∃ y s', turnC tm t e vs (F x) (rho s) = .ok (some (G y), rho s') ∧ P y ∧ (∀ w ∈ ws, (rho s')[w]? = (rho s)[w]?)) →
    ∃ (ys : List β) (s' : S), cCompL tm t e vs ws (xs.map F) (rho s) = .ok (ys.map G, rho s') ∧ ys.length = xs.length ∧ ∀ y ∈ ys, P y
  | [], s, _ => ⟨[], s, rfl, rfl, by simp⟩
  | x :: xs, s, h => by
    obtain ⟨y, s1, e1, p1, w1⟩ := h s x (by simp)
    obtain ⟨ys, s2, e2, l2, p2⟩ := comp_ex F G rho P xs s1 fun s y hy => h s y (by simp [hy])
    exact ⟨y :: ys, s2, comp_cons e1 w1 e2, by simp [l2], by simpa using ⟨p1, p2⟩⟩
end
end Y

set_option Elab.async false
set_option linter.all false
set_option maxRecDepth 100000
namespace Y
open PySem PySem.Spec PyProof.Rows L2
def rgD (a b : Int) : List D := (List.range (b - a).toNat).map fun i => D.int (a + (i : Nat))
def rgB (a b : Int) : Bool := rngOk a && rngOk b && decide ((b - a).toNat ≤ 16777216)
def cRg1 (l : Bool) (m : EM) : EM := fun ρ => do
  let (h, ρ1) ← m ρ
  let d ← h.v.nox
  match d with
  | .int n => if rgB 0 n = true then pure (.fr (if l then .lst (rgD 0 n) else .tup (rgD 0 n)), ρ1) else .stk
  | _ => .stk
section
variable {K : PySem.W.Frag} {X : Cx} {P0 : Pr} {O W U : List Nat} {E : EK} {a b e : Expr} {es : List Expr} {ma mb : EM} {ms : AM} {pos : Pos}
theorem rgB_ok {a b : Int} (h : rgB a b = true) : RgOk a b := by
  unfold rgB rngOk at h
  simp only [Bool.and_eq_true, decide_eq_true_eq] at h
  obtain ⟨⟨h1, h2⟩, h3⟩ := h
  exact ⟨by omega, by omega, by omega, by omega, by have e : (2 : Nat) ^ 24 = 16777216 := by decide
                                                    omega⟩
theorem reps_rg {H : Hp} {P : Pr} {a b : Int} : Reps K H (rgD a b) P (rgV a b) := by
  unfold rgD rgV
  induction (List.range (b - a).toNat) with
  | nil => exact Reps.nil
  | cons x xs ih => exact Reps.cons (by unfold Rep; rfl) ih
theorem out_lst {P : Pr} {H : Hp} {ds : List D} {vs : List V} {Q : VK} (hm : ∀ b, P b → isMut (H b)) (o : Out K P H (.lst ds) Q) (r : ∀ H' P', Reps K H' ds P' vs) : ∀ q, H q = none → Q (.ref q) (upd H q (.lst vs)) := fun q hq => o _ _ (fun b u eb => by rw [upd_ne (ne_of_none eb hq)]; exact eb) (by
    unfold Rep
    exact ⟨q, vs, rfl, fun z => (hm q z).some hq, upd_same, r _ _⟩) fun _ a e => by cases e; exact hq
theorem out_tup {P : Pr} {H : Hp} {ds : List D} {vs : List V} {Q : VK} (o : Out K P H (.tup ds) Q) (r : ∀ H' P', Reps K H' ds P' vs) : ∀ q, H q = none → Q (.ref q) (upd H q (.tup vs)) := fun q hq => o _ _ (fun b u eb => by rw [upd_ne (ne_of_none eb hq)]; exact eb) (by
    unfold Rep
    exact ⟨q, vs, rfl, upd_same, r _ _⟩) fun m => by cases m
theorem tM_rg1 {l : Bool} (σ : St) (H : Hp) (Q : VK) (h : tM X.K P0 O W E (cRg1 l ma) σ H Q) : tRg1 (tM X.K P0 O W E ma) σ H fun a b H1 => RgOk a b ∧ ∀ q, H1 q = none → Q (.ref q) (upd H1 q (if l then .lst (rgV a b) else .tup (rgV a b))) := by
  obtain ⟨ρ, S, h⟩ := h
  refine ⟨ρ, S, h.of_bind.mono fun ⟨hd, ρ1⟩ q v H1 S1 k1 r1 => ?_⟩
  obtain ⟨d, e1, q⟩ := q.of_nox
  have rd := r1.v e1
  cases d <;> first | (exact q.elim) | skip
  rename_i n
  unfold Rep at rd
  subst rd
  refine ⟨n, rfl, ?_⟩
  by_cases c : rgB 0 n = true
  · have q : Res E W σ H (if rgB 0 n = true then R.ok (Hd.fr (if l then .lst (rgD 0 n) else .tup (rgD 0 n)), ρ1) else .stk) _ := q
    rw [if_pos c] at q
    refine ⟨rgB_ok c, ?_⟩
    have o := out_of S1 k1 q
    cases l with
    | true => exact out_lst S1.dom o fun _ _ => reps_rg
    | false => exact out_tup o fun _ _ => reps_rg
  · have q : Res E W σ H (if rgB 0 n = true then R.ok (Hd.fr (if l then .lst (rgD 0 n) else .tup (rgD 0 n)), ρ1) else .stk) _ := q
    rw [if_neg c] at q
    exact q.elim
theorem ce_lrg1 {p p2 pos : Pos} (hc : X.calm = true) (hm : X.mg "list" = none) (hm2 : X.mg "range" = none) (ha : CEx X P0 O W E a ma) (hg : Gl X "list" := by rfl) (hg2 : Gl X "range" := by rfl) (na : starEach [a] X.env = (false, eval a X.env) :: starEach [] X.env := by rfl)
    (na2 : starEach [.Call (.Name "range" p) [a] [] p2] X.env = (false, eval (.Call (.Name "range" p) [a] [] p2) X.env) :: starEach [] X.env := by rfl) {q : Pos} : CEx X P0 O W E (.Call (.Name "list" q) [.Call (.Name "range" p) [a] [] p2] [] pos) (cRg1 true ma) :=
  PE.imp (pe_listRg hc hg hm (prg_1 hg2 hm2 ha na) na2) fun σ H Q h => tM_rg1 σ H Q h
def sortI (ns : List Int) : List Int := ns.mergeSort (fun a b => decide (a ≤ b))
theorem sortI_perm (ns : List Int) : (sortI ns).Perm ns := List.mergeSort_perm _ _
theorem sortI_pw (ns : List Int) : (sortI ns).Pairwise (· ≤ ·) := by
  have := List.pairwise_mergeSort (le := fun a b : Int => decide (a ≤ b)) (fun a b c h1 h2 => by simp at *; omega) (fun a b => by simp; omega) ns
  exact this.imp fun h => by simpa using h
theorem sortI_of {ns ms : List Int} (p : ms.Perm ns) (h : ms.Pairwise (· ≤ ·)) : ms = sortI ns :=
  List.Perm.eq_of_pairwise (le := fun a b : Int => a ≤ b) (fun a b _ _ h1 h2 => by omega) h (sortI_pw ns) (p.trans (sortI_perm ns).symm)
def sortedD : List D → R D
  | [.lst ds] => match intsOf ds with | some ns => .ok (.lst ((sortI ns).map D.int)) | none => .stk
  | _ => .stk
theorem cd_sortedI : CallR X (.builtin "sorted") (rDs X.K sortedD) := by
  intro pins s σ H xs us Q I r ⟨P, ds, dz, hm, rs, e, out⟩
  unfold sortedD at e
  split at e
  · split at e
    · rename_i ns ei
      cases e
      obtain ⟨v, rfl, r1⟩ := rs.get1
      obtain ⟨a, vs, rfl, h1, h2⟩ := r1.lst
      rw [ints_rep ei h2] at h1
      exact cr_sortedI pins s σ H _ us Q I r ⟨a, ns, rfl, SqL.of h1, fun ns' p pp pw hp => by
        rw [sortI_of pp pw]
        exact out_lst hm out (fun _ _ => reps_ints _) p hp⟩
    · cases e
  · cases e
@[simp] theorem d_sortI {xs : List Int} : sortedD [.lst (xs.map D.int)] = .ok (.lst ((sortI xs).map D.int)) := by
  show (match intsOf (xs.map .int) with | some ns => R.ok (D.lst ((sortI ns).map D.int)) | none => .stk) = _
  rw [ints_map]
def popRes (i : Nat) (ds : List D) (z : Int) (ρ1 : Y.Env) : R (Hd × Y.Env) := if szOk ds.length = true then (match ixN ds.length z with
    | some k => (match ds[k]? with
      | some d => .ok (.vl d, ρ1.set i (some (.lst (ds.eraseIdx k))))
      | none => .stk)
    | none => .stk) else .stk
def cPopAt (i : Nat) (m : EM) : EM := fun ρ => do
  let _ ← (lstAt i ρ).nox
  let (h, ρ1) ← m ρ
  let d ← h.v.nox
  match d with
  | .int z => do
    let ds ← (lstAt i ρ1).nox
    popRes i ds z ρ1
  | _ => .stk
theorem Keep.ownW {i : Nat} {l : Addr} {o : HO} {σ : St} {H H1 : Hp} (k : Keep W σ H H1) (hi : i ∈ W) (ha : σ[i]? = Option.some (Option.some (V.ref l))) : Keep W σ H (upd H1 l o) where
  keep := fun b u e n => by
    rw [upd_ne fun (z : b = l) => n ⟨i, hi, by rw [z]; exact ha⟩]
    exact k.keep b u e n
  some := fun b e => by
    by_cases hb : b = l
    · rw [hb, upd_same]; intro z; cases z
    · rw [upd_ne hb]; exact k.some b e
theorem Reps.erase {H : Hp} {P : Pr} : ∀ {ds : List D} {vs : List V} (k : Nat), Reps K H ds P vs → Reps K H (ds.eraseIdx k) P (vs.eraseIdx k)
  | [], _, k, h => by rw [h.nil_iff]; simp; exact Reps.nil
  | d :: ds, _, 0, h => by
    obtain ⟨v, ws, rfl, h1, h2⟩ := h.cons_iff
    exact h2
  | d :: ds, _, k + 1, h => by
    obtain ⟨v, ws, rfl, h1, h2⟩ := h.cons_iff
    exact Reps.cons h1 (Reps.erase k h2)
theorem tM_popAt {i : Nat} (hi : i ∈ O) (hw : i ∈ W) (σ : St) (H : Hp) (Q : VK) (h : tM K P0 O W E (cPopAt i ma) σ H Q) : tBM K "list" rPopAt (tVar i) (tCons (tM K P0 O W E ma) tNil) σ H Q := by
  obtain ⟨ρ, S, h⟩ := h
  obtain ⟨ds0, e0, h⟩ := h.of_nox
  obtain ⟨l, vs0, h1, h2, _⟩ := S.lst hi (lstAt_ok e0)
  refine ⟨.ref l, h1, .inl ⟨rfl, _, SqL.of h2⟩, ρ, S, h.of_bind.mono fun ⟨hd, ρ1⟩ q v H1 S1 k1 r1 => ?_⟩
  obtain ⟨d, e1, q⟩ := q.of_nox
  have rd := r1.v e1
  cases d <;> first | (exact q.elim) | skip
  rename_i z
  unfold Rep at rd
  subst rd
  obtain ⟨ds, e2, q⟩ := Res.of_nox (show Res E W σ H ((lstAt i ρ1).nox >>= _) _ from q)
  obtain ⟨l', vs, h1', h3, h4⟩ := S1.lst hi (lstAt_ok e2)
  rw [h1] at h1'
  cases h1'
  have q : Res E W σ H (popRes i ds z ρ1) _ := q
  unfold popRes at q
  by_cases c : szOk ds.length = true
  · rw [if_pos c] at q
    have c := of_decide_eq_true c
    cases ej : ixN ds.length z with
    | none => rw [ej] at q; exact q.elim
    | some k =>
      rw [ej] at q
      cases ed : ds[k]? with
      | none => simp only [ed] at q; exact q.elim
      | some d =>
        simp only [ed] at q
        obtain ⟨y, ey, ry⟩ := h4.get ed
        obtain ⟨a1, a2, a3, a4⟩ := ixN_seq ej
        have e24 : sizeLine = 16777216 := by decide
        have hv : FA P0 O σ = FA P0 O σ := rfl
        refine ⟨l, vs, z, k, y, rfl, rfl, h3, by omega, by omega, by rw [h4.length]; exact a1, ey, ?_⟩
        have S2 := S1.lstW hi h1 h3 (Reps.erase k h4)
        refine q y _ S2 (k1.ownW hw h1) ?_
        exact ry.mono d S1.dom (fun b o e n => by rw [upd_ne fun z => n (.inr ⟨i, hi, by rw [z]; exact h1⟩)]; exact e) fun b z => .inl z
  · rw [if_neg c] at q
    exact q.elim
theorem ce_popAt {i : Nat} {x : Str} {p ap cp : Pos} (h : CEx X P0 O W E e ma) (hi : i ∈ O := by decide) (hw : i ∈ W := by decide) (hx : X.N[i]? = some x := by rfl) (hv : Vis X.env.scope x := by first | exact Or.inl rfl | exact Or.inr (Or.inl rfl) | exact Or.inr (Or.inr rfl)) (hd : (x == ("__debug__" : Str)) = false := by decide) (hcd : (x == ("__classdict__" : Str)) = false := by decide)
    (he : starEach [e] X.env = (false, eval e X.env) :: starEach [] X.env := by rfl) (hpl : (backTo cp (starEach [] X.env)).any (·.1) = false := by rfl) (hbase : attributeBase (.Name x p) "pop" X.env (eval (.Name x p) X.env) = eval (.Name x p) X.env := by rfl) (hline : (ap.endLine == cp.line) = true := by rfl)
    (hfew : Few X cp [e] := by rfl) : CEx X P0 O W E (.Call (.Attribute (.Name x p) "pop" ap) [e] [] cp) (cPopAt i ma) :=
  PE.imp (pe_bm PySem.F.plainAttrs_list PySem.F.slot_list_pop PySem.F.type_list_pop mt_popAt (pe_var (i := i) hx hv hd hcd) (pa_cons h pa_nil he) hbase hfew hline he hpl) (tM_popAt hi hw)
end
end Y

set_option Elab.async false
set_option linter.all false
set_option maxRecDepth 100000
set_option maxHeartbeats 4000000
namespace Y
open PySem PySem.Spec PyProof.Rows L2
def ltL : List Int → List Int → Bool
  | [], [] => false
  | [], _ :: _ => true
  | _ :: _, [] => false
  | x :: xs, y :: ys => if x = y then ltL xs ys else decide (x < y)
theorem ltL_asym : ∀ {a b : List Int}, ltL a b = true → ltL b a = false
  | [], [], h => by simp [ltL] at h
  | [], _ :: _, _ => rfl
  | _ :: _, [], h => by simp [ltL] at h
  | x :: xs, y :: ys, h => by
    unfold ltL at h ⊢
    by_cases e : x = y
    · rw [if_pos e] at h
      rw [if_pos e.symm]
      exact ltL_asym h
    · rw [if_neg e, decide_eq_true_eq] at h
      rw [if_neg fun z => e z.symm, decide_eq_false_iff_not]
      omega
theorem ltL_tr : ∀ {a b c : List Int}, ltL b a = false → ltL c b = false → ltL c a = false
  | a, b, [], h1, h2 => by
    cases b with
    | nil => exact h1
    | cons => simp [ltL] at h2
  | [], b, z :: zs, _, _ => rfl
  | x :: xs, [], z :: zs, h1, _ => by simp [ltL] at h1
  | x :: xs, y :: ys, z :: zs, h1, h2 => by
    unfold ltL at h1 h2 ⊢
    by_cases e1 : y = x
    · rw [if_pos e1] at h1
      by_cases e2 : z = y
      · rw [if_pos e2] at h2
        rw [if_pos (e2.trans e1)]
        exact ltL_tr h1 h2
      · rw [if_neg e2, decide_eq_false_iff_not] at h2
        rw [if_neg (by omega), decide_eq_false_iff_not]
        omega
    · rw [if_neg e1, decide_eq_false_iff_not] at h1
      by_cases e2 : z = y
      · rw [if_neg (by omega), decide_eq_false_iff_not]
        omega
      · rw [if_neg e2, decide_eq_false_iff_not] at h2
        rw [if_neg (by omega), decide_eq_false_iff_not]
        omega
theorem ltL_eq : ∀ {a b : List Int}, ltL a b = false → ltL b a = false → a = b
  | [], [], _, _ => rfl
  | [], _ :: _, h, _ => by simp [ltL] at h
  | _ :: _, [], _, h => by simp [ltL] at h
  | x :: xs, y :: ys, h1, h2 => by
    unfold ltL at h1 h2
    by_cases e : x = y
    · rw [if_pos e] at h1
      rw [if_pos e.symm] at h2
      rw [e, ltL_eq h1 h2]
    · rw [if_neg e, decide_eq_false_iff_not] at h1
      rw [if_neg fun z => e z.symm, decide_eq_false_iff_not] at h2
      omega
theorem ltL_swo {β : Type} (k : β → List Int) : SrtO.Swo fun v u => ltL (k v) (k u) := ⟨fun _ _ h => ltL_asym h, fun _ _ _ h1 h2 => ltL_tr h1 h2⟩
def sortL (xs : List (List Int)) : List (List Int) := xs.mergeSort fun a b => !ltL b a
theorem sortL_perm (xs : List (List Int)) : (sortL xs).Perm xs := List.mergeSort_perm _ _
theorem sortL_pw (xs : List (List Int)) : (sortL xs).Pairwise fun a b => ltL b a = false := by
  have := List.pairwise_mergeSort (le := fun a b : List Int => !ltL b a) (fun a b c h1 h2 => by
    simp only [Bool.not_eq_true'] at *
    exact ltL_tr h1 h2) (fun a b => by
    cases e : ltL b a with
    | false => rfl
    | true => simp [ltL_asym e]) xs
  exact this.imp fun h => by simpa using h
theorem sortL_of {xs ys : List (List Int)} (p : ys.Perm xs) (h : ys.Pairwise fun a b => ltL b a = false) : ys = sortL xs :=
  List.Perm.eq_of_pairwise (le := fun a b : List Int => ltL b a = false) (fun a b _ _ h1 h2 => ltL_eq h2 h1) h (sortL_pw xs) (p.trans (sortL_perm xs).symm)
def TupV (h : Heap) (v : Value) (ns : List Int) : Prop := ∃ a o its n, v = .ref a ∧ h.get? a = some o ∧ o.cls = .type "tuple" ∧ o.data = .seq its n ∧ IntsAre its.toList ns
theorem TupV.at {h g : Heap} {v : Value} {ns : List Int} (p : TupV h v ns) (k : ∀ b o, h.get? b = some o → o.cls = .type "tuple" → g.get? b = some o) : TupV g v ns :=
  let ⟨a, o, its, n, e, ho, c, d, i⟩ := p
  ⟨a, o, its, n, e, k _ _ ho c, c, d, i⟩
section
variable {prog : Program} {w : World} {A : Around} {E : Value → Shared → Prop} {s : Shared}
/-- two tuples' items in turn -/
theorem lexI {b fin : Bool} {Q : Bool → Shared → Prop} : ∀ {xs ys : List Value} {ns ms : List Int} (i : Nat), IntsAre xs ns → IntsAre ys ms → ((ns.length < ms.length ↔ fin = true) → True) →
    (∀ r, (∀ k, ns.take k = ms.take k → k = min ns.length ms.length → r = fin) → (¬ (ns.take (min ns.length ms.length) = ms.take (min ns.length ms.length)) → r = ltL ns ms) → Q r s) → PySem.W.KatLex prog w A b fin Q (xs.zip ys) i s
  | _, _, _, _, i, .nil, _, _, q => PySem.W.kat_nil (q fin (fun _ _ _ => rfl) fun z => by simp at z)
  | _, _, _, _, i, .cons n t r, .nil, _, q => PySem.W.kat_nil (q fin (fun _ _ _ => rfl) fun z => by simp at z)
  | _, _, _, _, i, .cons n t r1, .cons m u r2, _, q => by
    rw [List.zip_cons_cons]
    refine PySem.W.kat_cons (SeqAt.EqAt.int_int n t m u prog w _ _ ?_)
    refine PySem.W.kat_go (fun e1 => ?_) (fun e1 => ?_)
    · obtain rfl : n = m := by simpa using e1
      refine PySem.W.kat_yes (lexI (i + 1) r1 r2 (fun _ => trivial) fun r h1 h2 => q r (fun k hk hm => ?_) fun hn => ?_)
      · rw [List.length_cons, List.length_cons, Nat.succ_min_succ] at hm
        subst hm
        exact h1 _ (by simpa using hk) rfl
      · rw [h2 fun z => hn (by rw [List.length_cons, List.length_cons, Nat.succ_min_succ, List.take_succ_cons, List.take_succ_cons, z])]
        simp [ltL]
    · have ne : ¬ n = m := by simpa using e1
      have fin' : Q (decide (n < m)) s := q _ (fun k hk hm => by
        rw [List.length_cons, List.length_cons, Nat.succ_min_succ] at hm
        subst hm
        simp only [List.take_succ_cons, List.cons.injEq] at hk
        exact absurd hk.1 ne) fun _ => by simp [ltL, ne]
      refine PySem.W.kat_no ?_
      cases hb : (b && i == 0) with
      | true => exact oneLt_int fin'
      | false => exact PySem.W.kat_one _ _ (PyProof.Rows.lt_int fin')
theorem ltL_fin : ∀ {ns ms : List Int}, ns.take (min ns.length ms.length) = ms.take (min ns.length ms.length) → ltL ns ms = decide (ns.length < ms.length)
  | [], [], _ => rfl
  | [], _ :: _, _ => by simp [ltL]
  | _ :: _, [], _ => by simp [ltL]
  | x :: xs, y :: ys, h => by
    rw [List.length_cons, List.length_cons, Nat.succ_min_succ, List.take_succ_cons, List.take_succ_cons, List.cons.injEq] at h
    unfold ltL
    rw [if_pos h.1, ltL_fin h.2, List.length_cons, List.length_cons]
    simp
theorem tup_cmp {vs : List Value} {k : Value → List Int} {c : Bool} (hp : ∀ v ∈ vs, TupV s.heap v (k v)) : SrtO.Cmp prog w A s (tuples' c) (fun p => p.1 ∈ vs) (SrtO.lt2 fun v u => ltL (k v) (k u)) := by
  intro p q mp mq
  have g1 := hp _ mp
  have g2 := hp _ mq
  show wpAny (model prog w) A (keyLt' (tuples' c) p.1 q.1) (fun r s' => s' = s ∧ r = ltL (k p.1) (k q.1)) (fun _ _ => False) s
  generalize k p.1 = ns at g1 ⊢
  generalize k q.1 = ms at g2 ⊢
  obtain ⟨a, o, xs, n, e, ho, hc, hd, hi⟩ := g1
  obtain ⟨a', o', ys, n', e', ho', hc', hd', hi'⟩ := g2
  rw [e, e']
  refine PySem.W.kat_lt ho hd ho' hd' (lexI 0 hi hi' (fun _ => trivial) fun r h1 h2 => ⟨rfl, ?_⟩)
  by_cases z : ns.take (min ns.length ms.length) = ms.take (min ns.length ms.length)
  · rw [h1 _ z rfl, ltL_fin z, ← hi.length, ← hi'.length, Array.length_toList, Array.length_toList]
  · exact h2 z
theorem tup_firsts {h : Heap} {k : Value → List Int} : ∀ {vs : List Value}, (∀ v ∈ vs, TupV h v (k v) ∧ k v ≠ []) → ∃ fs : List Value, PySem.W.KatTups h vs fs ∧ fs.length = vs.length ∧ ∀ f ∈ fs, ∃ x t, f = Value.int x t
  | [], _ => ⟨[], trivial, rfl, fun _ z => nomatch z⟩
  | v :: vs, hp => by
    obtain ⟨fs, t1, t2, t3⟩ := tup_firsts (vs := vs) fun u hu => hp u (by simp [hu])
    obtain ⟨⟨a, o, xs, n, e, ho, hc, hd, hi⟩, ne⟩ := hp v (by simp)
    generalize k v = ns at hi ne
    obtain ⟨m, t, us, ms, e1⟩ : ∃ m t us ms, xs.toList = Value.int m t :: us ∧ ns = m :: ms := by
      generalize xs.toList = l at hi
      cases hi with
      | nil => exact absurd rfl ne
      | cons m t r => exact ⟨m, t, _, _, rfl, rfl⟩
    refine ⟨.int m t :: fs, ⟨⟨a, o, xs, n, e, ho, hc, hd, ?_⟩, t1⟩, by simp [t2], fun f hf => ?_⟩
    · rw [← Array.getElem?_toList, e1.1]
      rfl
    · rcases List.mem_cons.mp hf with rfl | hf
      · exact ⟨m, t, rfl⟩
      · exact t3 f hf
theorem tup_sortable {a : Addr} {vs : List Value} {k : Value → List Int} (h0 : 0 < vs.length) (hp : ∀ v ∈ vs, TupV s.heap v (k v) ∧ k v ≠ []) (ha : ∀ o, s.heap.get? a = some o → o.cls ≠ .type "tuple") : SrtO.SortableO prog w A s a vs fun v u => ltL (k v) (k u) := by
  intro g kp
  have hq : ∀ v ∈ vs, TupV g v (k v) ∧ k v ≠ [] := fun v hv => ⟨(hp v hv).1.at fun b o e c => kp b o (fun z => by subst z; exact ha o e c) e, (hp v hv).2⟩
  obtain ⟨fs, t1, t2, t3⟩ := tup_firsts hq
  refine ⟨tuples' true, fun Q E done => ?_, tup_cmp fun v hv => (hq v hv).1⟩
  refine PySem.W.kat_kind (T := .type "int") t1 (by omega) (fun f hf => ?_) (by rfl) ?_
  · obtain ⟨x, t, rfl⟩ := t3 f hf
    exact PySem.W.Looks.now
  · rw [show (Value.type "int" != Value.type "tuple") = true by decide +kernel]
    exact done
end
/-- sorted(xs), xs a list of tuples of whole numbers (none empty where there are two) -/
def rSortTs (K : PySem.W.Frag) : List V → Hp → VK → Prop := fun vs H Q => ∃ (a : Addr) (xs : List V) (k : V → List Int), vs = [V.ref a] ∧ SqL K H a xs ∧ (∀ x ∈ xs, ∃ t, x = V.ref t ∧ H t = some (.tup ((k x).map V.int)) ∧ (2 ≤ xs.length → k x ≠ [])) ∧
  ∀ ys p, ys.Pairwise (fun x y => ltL (k y) (k x) = false) → ys.Perm xs → H p = none → Q (.ref p) (upd H p (.lst ys))
theorem ints_vals : ∀ {ns : List Int} {us : List Value}, Vals (ns.map V.int) us → IntsAre us ns
  | [], _, .nil => .nil
  | n :: ns, _, .cons r t => by
    obtain ⟨u, rfl⟩ := r
    exact .cons n u (ints_vals t)
section
variable {X : Cx}
theorem cr_sortTs : CallR X (.builtin "sorted") (rSortTs X.K) := by
  intro pins s σ H vs us Q I r ⟨a, xs, k, e0, hs, hx, q⟩
  subst e0
  obtain ⟨its, rv, hl, hz⟩ := I.list hs
  obtain ⟨u, e3, ru⟩ := vals1 r
  subst e3
  obtain rfl : u = Value.ref a := ru
  obtain ⟨e1, e2⟩ := refs_back rv fun x m => (hx x m).imp fun t h => h.1
  have tv : ∀ v ∈ its, TupV s.heap v (k (backV v)) ∧ (2 ≤ xs.length → k (backV v) ≠ []) := fun v hv => by
    obtain ⟨t, rfl⟩ := e2 v hv
    have hm : V.ref t ∈ xs := by rw [e1]; exact List.mem_map.mpr ⟨_, hv, rfl⟩
    obtain ⟨t', e, ht, ne⟩ := hx _ hm
    cases e
    obtain ⟨_, its2, r2, o, ho, hc, n, hd⟩ := I.hok _ _ ht
    exact ⟨⟨t, o, _, n, rfl, ho, hc, hd, by rw [List.toList_toArray]; exact ints_vals r2⟩, ne⟩
  have zl : its.length = xs.length := by rw [rv.length]
  refine SrtO.sorted_ord (ltL_swo fun v => k (backV v)) hl.isList (by rw [zl]; exact hz) (fun h2 g b hb kk => ?_) fun out hs1 hs2 => ?_
  · refine tup_sortable (s := { s with heap := g }) (by omega) (fun v hv => ⟨(tv v hv).1.at fun c o e _ => (kk c o e).2, (tv v hv).2 (by omega)⟩) fun o e => ?_
    have e' : some o = some (seqObj "list" its.toArray 0) := e.symm.trans hb
    cases e'
    exact fun c => absurd (Value.type.inj c) (by decide)
  · obtain ⟨n, hn⟩ := PyProof.Rows.sortedAll_at s.heap its out.toArray
    have h3 : ∀ u ∈ out, ∃ b, u = Value.ref b := fun u hu => e2 u (hs2.perm.mem_iff.mp hu)
    have pm : (out.map backV).Perm xs := by rw [e1]; exact hs2.perm.map backV
    refine ⟨.ref (s.heap.objs.size + 1), upd H (s.heap.objs.size + 1) (.lst (out.map backV)), I.laid (t' := s.toks) (fun _ _ e => PyProof.Rows.sortedAll_old e) (Nat.le_succ _) ⟨by rw [pm.length_eq]; exact hz, out, n, vals_back h3, hn⟩, rfl, q _ _ ?_ pm (I.hok.fresh (Nat.le_succ _))⟩
    exact List.pairwise_map.mpr hs1
end
end Y

set_option Elab.async false
set_option linter.all false
set_option maxRecDepth 100000
namespace Y
open PySem PySem.Spec PyProof.Rows L2
theorem ltC_cons {x y : Nat} {xs ys : List Nat} : ltCps (x :: xs) (y :: ys) = true ↔ x < y ∨ (x = y ∧ ltCps xs ys = true) := by simp [ltCps]
theorem ltC_asym : ∀ {a b : List Nat}, ltCps a b = true → ltCps b a = false
  | [], [], h => by simp [ltCps] at h
  | [], _ :: _, _ => by simp [ltCps]
  | _ :: _, [], h => by simp [ltCps] at h
  | x :: xs, y :: ys, h => by
    rw [← Bool.not_eq_true, ltC_cons]
    rcases ltC_cons.mp h with h2 | ⟨rfl, h2⟩
    · rintro (z | ⟨z, _⟩) <;> omega
    · have := ltC_asym h2
      rintro (z | ⟨_, z⟩)
      · omega
      · rw [this] at z; cases z
theorem ltC_tr : ∀ {a b c : List Nat}, ltCps a b = true → ltCps b c = true → ltCps a c = true
  | [], _ :: _, _ :: _, _, _ => by simp [ltCps]
  | [], [], _, h, _ => by simp [ltCps] at h
  | _ :: _, [], _, h, _ => by simp [ltCps] at h
  | _, _ :: _, [], _, h => by simp [ltCps] at h
  | x :: xs, y :: ys, z :: zs, h1, h2 => by
    rw [ltC_cons] at *
    rcases h1 with h1 | ⟨rfl, h1⟩
    · rcases h2 with h2 | ⟨rfl, h2⟩
      · exact .inl (by omega)
      · exact .inl h1
    · rcases h2 with h2 | ⟨rfl, h2⟩
      · exact .inl h2
      · exact .inr ⟨rfl, ltC_tr h1 h2⟩
theorem ltC_tot : ∀ {a b : List Nat}, ltCps a b = false → ltCps b a = false → a = b
  | [], [], _, _ => rfl
  | [], _ :: _, h, _ => by simp [ltCps] at h
  | _ :: _, [], _, h => by simp [ltCps] at h
  | x :: xs, y :: ys, h1, h2 => by
    rw [← Bool.not_eq_true, ltC_cons] at h1 h2
    have e : x = y := by omega
    subst e
    rw [ltC_tot (a := xs) (b := ys) (Bool.not_eq_true _ ▸ fun z => h1 (.inr ⟨rfl, z⟩)) (Bool.not_eq_true _ ▸ fun z => h2 (.inr ⟨rfl, z⟩))]
theorem ltC_ntr {a b c : List Nat} (h1 : ltCps b a = false) (h2 : ltCps c b = false) : ltCps c a = false := by
  cases e : ltCps c a with
  | false => rfl
  | true =>
    cases e2 : ltCps a b with
    | true => rw [ltC_tr e e2] at h2; cases h2
    | false => rw [ltC_tot e2 h1] at e; rw [e] at h2; cases h2
def ltStr (x y : Str) : Bool := ltCps x.cps.toList y.cps.toList
theorem ltStr_tot {x y : Str} (h1 : ltStr x y = false) (h2 : ltStr y x = false) : x = y := by
  have e := ltC_tot h1 h2
  cases x; cases y
  simp at e
  rw [e]
def sortS (xs : List Str) : List Str := xs.mergeSort fun a b => !ltStr b a
theorem sortS_perm (xs : List Str) : (sortS xs).Perm xs := List.mergeSort_perm _ _
theorem sortS_pw (xs : List Str) : (sortS xs).Pairwise fun a b => ltStr b a = false := by
  have := List.pairwise_mergeSort (le := fun a b : Str => !ltStr b a) (fun a b c h1 h2 => by
    simp only [Bool.not_eq_true'] at *
    exact ltC_ntr h1 h2) (fun a b => by
    cases e : ltStr b a with
    | false => rfl
    | true =>
      have := ltC_asym e
      simp [ltStr, this]) xs
  exact this.imp fun h => by simpa using h
theorem sortS_of {xs ys : List Str} (p : ys.Perm xs) (h : ys.Pairwise fun a b => ltStr b a = false) : ys = sortS xs :=
  List.Perm.eq_of_pairwise (le := fun a b : Str => ltStr b a = false) (fun a b _ _ h1 h2 => ltStr_tot h2 h1) h (sortS_pw xs) (p.trans (sortS_perm xs).symm)
theorem rising_pw : ∀ {ys : List Str}, sortedS ys = true → ys.Pairwise fun a b => ltStr b a = false
  | [], _ => List.Pairwise.nil
  | [x], _ => List.pairwise_singleton _ _
  | x :: y :: r, h => by
    simp only [sortedS, risingS, Bool.and_eq_true, Bool.not_eq_true'] at h
    have ih := rising_pw (ys := y :: r) h.2
    refine List.pairwise_cons.mpr ⟨fun z hz => ?_, ih⟩
    rcases List.mem_cons.mp hz with rfl | hz
    · exact h.1
    · exact ltC_ntr h.1 ((List.pairwise_cons.mp ih).1 z hz)
def rSortSt (K : PySem.W.Frag) : List V → Hp → VK → Prop := fun vs H Q => ∃ (a : Addr) (xs : List Str), vs = [V.ref a] ∧ SqL K H a (xs.map V.str) ∧ ∀ p, H p = none → Q (.ref p) (upd H p (.lst ((sortS xs).map V.str)))
theorem cr_sortSt {X : Cx} : CallR X (.builtin "sorted") (rSortSt X.K) := by
  intro pins s σ H vs us Q I r ⟨a, xs, e0, hs, q⟩
  subst e0
  obtain ⟨its, rv, hl, hz⟩ := I.list hs
  rw [Vals.ref1 r]
  refine sorted_strsAny hl.isList rv.strs (by rw [← rv.length]; exact hz) fun out ys h1 h2 h3 => ?_
  obtain ⟨n, hn⟩ := PyProof.Rows.sortedAll_at s.heap its out
  have ey := sortS_of h2 (rising_pw h3)
  subst ey
  have zl : ((sortS xs).map V.str).length ≤ sizeLine := by rw [List.length_map, h2.length_eq]; rw [List.length_map] at hz; exact hz
  exact ⟨.ref _, upd H (s.heap.objs.size + 1) (.lst ((sortS xs).map V.str)), I.laid (t' := s.toks) (fun _ _ => PyProof.Rows.sortedAll_old) (Nat.le_succ _) ⟨zl, out.toList, n, vals_of_strs h1, hn⟩, rfl, q _ (I.hok.fresh (Nat.le_succ _))⟩
def intTup : D → Option (List Int)
  | .tup ds => intsOf ds
  | _ => none
def tupsOf : List D → Option (List (List Int))
  | [] => some []
  | d :: ds => match intTup d, tupsOf ds with
    | some n, some ns => some (n :: ns)
    | _, _ => none
def sortOk (xs : List (List Int)) : Bool := decide (xs.length < 2) || xs.all fun x => !x.isEmpty
def sortD : List D → R D
  | [.lst ds] => match intsOf ds with
    | some ns => .ok (.lst ((sortI ns).map D.int))
    | none => match strsOf ds with
    | some ss => .ok (.lst ((sortS ss).map D.str))
    | none => match tupsOf ds with
      | some xs => if sortOk xs = true then .ok (.lst ((sortL xs).map fun x => D.tup (x.map D.int))) else .stk
      | none => .stk
  | _ => .stk
def intV : V → Int
  | .int i => i
  | _ => 0
def keyV (H : Hp) : V → List Int
  | .ref t => match H t with
    | some (.tup ws) => ws.map intV
    | _ => []
  | _ => []
theorem ints_back (ns : List Int) : (ns.map V.int).map intV = ns := by
  rw [List.map_map]
  induction ns with
  | nil => rfl
  | cons x xs ih => simp [intV] at ih ⊢; exact ih
theorem reps_strs {K : PySem.W.Frag} {H : Hp} {P : Pr} : ∀ ns : List Str, Reps K H (ns.map D.str) P (ns.map V.str)
  | [] => Reps.nil
  | n :: ns => Reps.cons (by unfold Rep; rfl) (reps_strs ns)
section
variable {K : PySem.W.Frag} {X : Cx}
theorem tups_rep {H : Hp} {P : Pr} : ∀ {ds : List D} {xs : List (List Int)} {vs : List V}, tupsOf ds = some xs → Reps K H ds P vs → vs.map (keyV H) = xs ∧ ∀ v ∈ vs, ∃ t, v = V.ref t ∧ H t = some (.tup ((keyV H v).map V.int))
  | [], xs, vs, e, h => by simp [tupsOf] at e; subst e; rw [h.nil_iff]; simp
  | d :: ds, xs, vs, e, h => by
    obtain ⟨v, ws, rfl, h1, h2⟩ := h.cons_iff
    unfold tupsOf at e
    cases e1 : intTup d with
    | none => rw [e1] at e; simp at e
    | some n =>
      cases e2 : tupsOf ds with
      | none => rw [e1, e2] at e; simp at e
      | some ns =>
        rw [e1, e2] at e
        simp at e
        subst e
        obtain ⟨i1, i2⟩ := tups_rep e2 h2
        cases d <;> simp [intTup] at e1
        rename_i ds'
        unfold Rep at h1
        obtain ⟨t, us, rfl, ht, hr⟩ := h1
        rw [ints_rep e1 hr] at ht
        have kt : keyV H (.ref t) = n := by
          show (match H t with | some (.tup ws) => ws.map intV | _ => []) = n
          rw [ht]
          exact ints_back n
        refine ⟨by rw [List.map_cons, kt, i1], fun v hv => ?_⟩
        rcases List.mem_cons.mp hv with rfl | hv
        · exact ⟨t, rfl, by rw [kt]; exact ht⟩
        · exact i2 v hv
theorem cd_sort : CallR X (.builtin "sorted") (rDs X.K sortD) := by
  intro pins s σ H xs us Q I r ⟨P, ds, dz, hm, rs, e, out⟩
  unfold sortD at e
  split at e
  · split at e
    · rename_i ds0 _ ns ei
      refine cd_sortedI pins s σ H xs us Q I r ⟨P, _, dz, hm, rs, ?_, out⟩
      show (match intsOf ds0 with | some ns => R.ok (D.lst ((sortI ns).map D.int)) | none => .stk) = _
      rw [ei]
      exact e
    · split at e
      · rename_i ss es
        cases e
        obtain ⟨v, rfl, r1⟩ := rs.get1
        obtain ⟨a, vs, rfl, h1, h2⟩ := r1.lst
        rw [strs_rep es h2] at h1
        exact cr_sortSt pins s σ H _ us Q I r ⟨a, ss, rfl, SqL.of h1, fun p hp => out_lst hm out (fun _ _ => reps_strs _) p hp⟩
      split at e
      · rename_i nss et
        split at e
        · rename_i ok
          cases e
          obtain ⟨v, rfl, r1⟩ := rs.get1
          obtain ⟨a, vs, rfl, h1, h2⟩ := r1.lst
          obtain ⟨k1, k2⟩ := tups_rep et h2
          have lv : vs.length = nss.length := by rw [← k1, List.length_map]
          refine cr_sortTs pins s σ H _ us Q I r ⟨a, vs, keyV H, rfl, SqL.of h1, fun x hx => ?_, fun ys p pw pm hp => ?_⟩
          · obtain ⟨t, e1, e2⟩ := k2 x hx
            refine ⟨t, e1, e2, fun h2' => ?_⟩
            unfold sortOk at ok
            rw [decide_eq_false (by omega), Bool.false_or, List.all_eq_true] at ok
            have := ok (keyV H x) (by rw [← k1]; exact List.mem_map.mpr ⟨x, hx, rfl⟩)
            intro z
            rw [z] at this
            simp at this
          · have sm : Same H (upd H p (.lst ys)) := fun b o eb => by rw [upd_ne (ne_of_none eb hp)]; exact eb
            have es : ys.map (keyV H) = sortL nss := sortL_of (by rw [← k1]; exact pm.map _) (List.pairwise_map.mpr pw)
            refine out _ _ sm ?_ fun _ b eb => by cases eb; exact hp
            unfold Rep
            refine ⟨p, ys, rfl, fun z => (hm p z).some hp, upd_same, ?_⟩
            rw [← es, List.map_map]
            have : ∀ (zs : List V) (P' : Pr), (∀ z ∈ zs, z ∈ vs) → Reps X.K (upd H p (.lst ys)) (zs.map ((fun x => D.tup (x.map D.int)) ∘ keyV H)) P' zs := fun zs P' => by
              induction zs with
              | nil => intro _; exact Reps.nil
              | cons z zs ih =>
                intro hz
                obtain ⟨t, e1, e2⟩ := k2 z (hz z (by simp))
                refine Reps.cons ?_ (ih fun y hy => hz y (by simp [hy]))
                show Rep X.K _ (D.tup ((keyV H z).map D.int)) P' z
                unfold Rep
                exact ⟨t, _, e1, sm _ _ e2, reps_ints _⟩
            exact this ys _ fun z hz => pm.mem_iff.mp hz
        · cases e
      · cases e
  · cases e
end
theorem tups_map : ∀ xs : List (List Int), tupsOf (xs.map fun x => D.tup (x.map D.int)) = some xs
  | [] => rfl
  | x :: xs => by
    simp only [List.map_cons, tupsOf, intTup, ints_map, tups_map xs]
@[simp] theorem d_sortN {xs : List Int} : sortD [.lst (xs.map D.int)] = .ok (.lst ((sortI xs).map D.int)) := by
  show (match intsOf (xs.map .int) with | some ns => R.ok (D.lst ((sortI ns).map D.int)) | none => _) = _
  rw [ints_map]
theorem sortD_tups {x : List Int} {xs : List (List Int)} (h : sortOk (x :: xs) = true) : sortD [.lst ((x :: xs).map fun x => D.tup (x.map D.int))] = .ok (.lst ((sortL (x :: xs)).map fun x => D.tup (x.map D.int))) := by
  have e : intsOf ((x :: xs).map fun x => D.tup (x.map D.int)) = none := rfl
  have e2 : strsOf ((x :: xs).map fun x => D.tup (x.map D.int)) = none := rfl
  unfold sortD
  simp only [e, e2, tups_map, h, if_true]
end Y

set_option Elab.async false
set_option linter.all false
set_option maxRecDepth 100000
namespace Y
open PySem PySem.Spec PyProof.Rows L2
def whileN (t : BM) (body : SM) (vs : List Nat) : Nat → Y.Env → R (Fl × Y.Env)
  | 0, _ => .stk
  | n + 1, ρ => do
    let (k, ρ1) ← t ρ
    if k = true then do
      let (f, ρ2) ← body ρ1
      match f with
      | .bk => pure (.nx, ρ2)
      | .rt h => pure (.rt h, ρ2)
      | _ => whileN t body vs n (wipeE ρ2 vs)
    else pure (.nx, ρ1)
open Classical in
noncomputable def sWhile (t : BM) (body : SM) (vs : List Nat) : SM := fun ρ => if h : ∃ n, whileN t body vs n ρ ≠ .stk then whileN t body vs h.choose ρ else .stk
theorem whileN_up {t : BM} {body : SM} {vs : List Nat} : ∀ {n : Nat} {ρ : Y.Env}, whileN t body vs n ρ ≠ .stk → whileN t body vs (n + 1) ρ = whileN t body vs n ρ
  | 0, ρ, h => absurd rfl h
  | n + 1, ρ, h => by
    unfold whileN at h
    conv => lhs; unfold whileN
    conv => rhs; unfold whileN
    cases e : t ρ with
    | stk => rfl
    | er c ds => rfl
    | ok p =>
      obtain ⟨k, ρ1⟩ := p
      rw [e] at h
      simp only [R.bind_ok] at h ⊢
      cases k with
      | false => rfl
      | true =>
        simp only [if_true] at h ⊢
        cases e2 : body ρ1 with
        | stk => rfl
        | er c ds => rfl
        | ok q =>
          obtain ⟨f, ρ2⟩ := q
          rw [e2] at h
          simp only [R.bind_ok] at h ⊢
          cases f with
          | bk => rfl
          | rt _ => rfl
          | nx => exact whileN_up h
          | ct => exact whileN_up h
theorem whileN_le {t : BM} {body : SM} {vs : List Nat} {n : Nat} {ρ : Y.Env} (h : whileN t body vs n ρ ≠ .stk) : ∀ m, whileN t body vs (n + m) ρ = whileN t body vs n ρ
  | 0 => rfl
  | m + 1 => by
    have ih := whileN_le h m
    rw [← Nat.add_assoc, whileN_up (by rw [ih]; exact h), ih]
/-- a run of so many turns tells what the loop yields -/
theorem sWhile_of {t : BM} {body : SM} {vs : List Nat} {n : Nat} {ρ : Y.Env} {a : Fl × Y.Env} (h : whileN t body vs n ρ = .ok a) : sWhile t body vs ρ = .ok a := by
  have hx : ∃ n, whileN t body vs n ρ ≠ .stk := ⟨n, by rw [h]; intro z; cases z⟩
  unfold sWhile
  rw [dif_pos hx]
  have h2 := hx.choose_spec
  rcases Nat.le_total n hx.choose with l | l
  · obtain ⟨m, e⟩ := Nat.exists_eq_add_of_le l
    rw [e, whileN_le (by rw [h]; intro z; cases z), h]
  · obtain ⟨m, e⟩ := Nat.exists_eq_add_of_le l
    rw [← whileN_le h2 m, ← e, h]
section
variable {X : Cx} {P0 : Pr} {O W U : List Nat} {E : EK} {c : Expr} {pos : Pos} {m : SM}
theorem cs_while {t : BM} {vs : List Nat} {xs : List Stmt} (hp : PassesOwn (model X.prog X.w) X.A X.env X.xe) (hc : CT X P0 O W E c t) (hb : CSs X P0 O W U E xs m) : CS X P0 O W U E (.While c xs [] pos) (sWhile t m vs) := PS.imp (ps_while hp hc hb) fun D σ H ⟨ρ, S, h⟩ => by
  let Post : Fl × Y.Env → Prop := fun a => ∀ σ' H', Sim X.K P0 O W a.2 σ' H' → Tr O U σ H σ' H' → σ'.length = σ.length → Fin X.K P0 O H D σ' H' a.1
  have h : Res E O σ H (sWhile t m vs ρ) Post := h
  unfold sWhile at h
  by_cases hx : ∃ n, whileN t m vs n ρ ≠ .stk
  · rw [dif_pos hx] at h
    refine ⟨fun k σx Hx => ∃ ρx, Sim X.K P0 O W ρx σx Hx ∧ Tr O U σ H σx Hx ∧ σx.length = σ.length ∧ Res E O σx Hx (whileN t m vs k ρx) Post, ⟨_, ρ, S, .refl, rfl, h⟩, ?_⟩
    rintro k σx Hx ⟨ρx, Sx, tx, lx, qx⟩
    cases k with
    | zero => exact qx.elim
    | succ k =>
      unfold whileN at qx
      refine ⟨ρx, Sx, (qx.of_bind.down Sx.sub).mono fun ⟨b, ρ1⟩ q1 H1 S1 k1 => ?_⟩
      have t1 : Tr O U σx Hx σx H1 := Tr.of Sx.sub k1
      cases b with
      | false =>
        refine (if_neg Bool.false_ne_true).mpr ?_
        exact q1 σx H1 S1 (tx.trans t1) lx
      | true =>
        refine (if_pos rfl).mpr ⟨fun σ' H' => ∃ ρ', Sim X.K P0 O W ρ' σ' H' ∧ Tr O U σ H σ' H' ∧ σ'.length = σ.length ∧ Res E O σ' H' (whileN t m vs k ρ') Post, fun σ' H' n => ⟨k, Nat.lt_succ_self k, n⟩, ρ1, S1, ?_⟩
        have q1 : Res E O σx Hx (m ρ1 >>= fun p => match p.1 with | .bk => pure (.nx, p.2) | .rt h => pure (.rt h, p.2) | _ => whileN t m vs k (wipeE p.2 vs)) Post := q1
        refine (Res.keepT q1.of_bind t1).mono fun ⟨f, ρ2⟩ q2 σ3 H3 S3 t3 l3 => ?_
        have t4 : Tr O U σx Hx σ3 H3 := t1.trans t3
        have t5 : Tr O U σ H σ3 H3 := tx.trans t4
        have l5 : σ3.length = σ.length := l3.trans lx
        cases f with
        | nx => exact ⟨wipeE ρ2 vs, S3.wipe vs, t5, l5, Res.keepT q2 t4⟩
        | ct => exact ⟨wipeE ρ2 vs, S3.wipe vs, t5, l5, Res.keepT q2 t4⟩
        | bk => exact q2 σ3 H3 S3 t5 l5
        | rt hd =>
          intro v r
          exact q2 σ3 H3 S3 t5 l5 v (r.back fun b e => (tx.trans t1).some b e)
  · rw [dif_neg hx] at h
    exact h.elim
end
end Y

set_option Elab.async false
set_option linter.all false
set_option maxRecDepth 100000
namespace Y
open PySem PySem.Spec PyProof.Rows L2
section
variable {X : Cx} {P0 : Pr} {O W U : List Nat} {E : EK} {a e : Expr} {ma mb : EM} {pos : Pos}
theorem ce_globI {x : Str} {i : Int} (h : ∃ t, X.mg x = some (.int i t)) (hg : Gl X x := by rfl) (hd : (x == ("__debug__" : Str)) = false := by decide) : CEx X P0 O W E (.Name x pos) (cC (.int i)) :=
  h.elim fun t ht => ce_glob (v := .int i) (fun _ _ => by unfold Rep; rfl) rfl ⟨t, rfl⟩ ht hg hd
end
end Y

set_option Elab.async false
set_option linter.all false
set_option maxRecDepth 100000
namespace Y
open PySem PySem.Spec PyProof.Rows L2
def intAt (i : Nat) (ρ : Y.Env) : R Int := match ρ[i]? with
  | some (some (.int n)) => .ok n
  | _ => .stk
theorem intAt_ok {i : Nat} {ρ : Y.Env} {n : Int} (h : intAt i ρ = .ok n) : ρ[i]? = some (some (.int n)) := by
  unfold intAt at h
  split at h
  · rename_i e; cases h; exact e
  · cases h
def sAug (f : Int → Int → Int) (i : Nat) (m : EM) : SM := fun ρ => do
  let n ← (intAt i ρ).nox
  let (h, ρ1) ← m ρ
  let d ← h.v.nox
  match d with
  | .int k => pure (.nx, ρ1.set i (some (.int (f n k))))
  | _ => .stk
section
variable {X : Cx} {P0 : Pr} {O W U : List Nat} {E : EK} {e : Expr} {ma : EM} {pos : Pos}
theorem cs_aug {op : Operator} {f : Int → Int → Int} {i : Nat} {x : Str} {p : Pos} (hN : X.N.Nodup) (hp : PIp X op (ipI f)) (h : CEx X P0 O W E e ma) (ho : i ∉ O := by decide) (hu : ∀ i ∈ U, i ∈ O := by decide) (hi : X.N[i]? = some x := by rfl) (hx : Loc X.env.scope x := by first | exact Or.inl rfl | exact Or.inr rfl)
    (hf : X.fn x = true ∨ X.env.scope.names.lookup x = some .local := by first | exact .inl rfl | exact .inr rfl) : CS X P0 O W U E (.AugAssign (.Name x p) op e pos) (sAug f i ma) := PS.imp (ps_aug hN hi hx h hp hf) fun D σ H ⟨ρ, S, h⟩ => by
  obtain ⟨n, e0, h⟩ := h.of_nox
  obtain ⟨v0, g1, g2⟩ := S.val i _ (intAt_ok e0) ho
  unfold Rep at g2
  subst g2
  refine ⟨_, g1, ρ, S, (h.of_bind.down S.sub).mono fun ⟨hd, ρ1⟩ q v H1 S1 k1 r1 => ?_⟩
  obtain ⟨d, e1, q⟩ := q.of_nox
  have rd := r1.v e1
  cases d <;> first | (exact q.elim) | skip
  rename_i k
  unfold Rep at rd
  subst rd
  refine ⟨n, k, rfl, rfl, ?_⟩
  exact q _ H1 (S1.set ho (by unfold Rep; rfl)) ((Tr.of S.sub k1).trans (Tr.slots (is := [i]) (by simpa using ho) hu fun j hj => List.getElem?_set_ne fun z => hj (by simp [z]))) (by simp)
end
variable {ρ : Y.Env}
@[simp] theorem e_aug {f : Int → Int → Int} {i : Nat} {m : EM} : sAug f i m ρ = ((intAt i ρ).nox >>= fun n => m ρ >>= fun p => p.1.v.nox >>= fun d => match d with | .int k => R.ok (.nx, p.2.set i (some (.int (f n k)))) | _ => .stk) := by
  unfold sAug; congr
@[simp] theorem e_iat {i : Nat} : intAt i ρ = (match ρ[i]? with | some (some (.int n)) => .ok n | _ => .stk) := id rfl
end Y

set_option Elab.async false
set_option linter.all false
set_option maxRecDepth 100000
namespace Y
open PySem PySem.Spec PyProof.Rows L2
def maxI : Int → List Int → Int
  | n, [] => n
  | n, m :: ms => maxI (max n m) ms
def minI : Int → List Int → Int
  | n, [] => n
  | n, m :: ms => minI (min n m) ms
section
variable {X : Cx}
end
end Y

set_option Elab.async false
set_option linter.all false
set_option maxRecDepth 100000
namespace Y
open PySem PySem.Spec PyProof.Rows L2
theorem extT_meets (l b : Addr) (xs ys : Array Value) (n k : Nat) (dd : Option Addr) (sl : Array (Option Value)) (c0 : ¬ (!xs.isEmpty && Builtin.List.listTooLong (xs.size + ys.size)) = true) (c1 : xs.size ≤ sizeLine) (c2 : xs.size + ys.size ≤ sizeLine + 1) :
    Meets (Builtin.«list.extend» ⟨[.ref l, .ref b], []⟩) (fun _ R s => s.heap.get? l = some { cls := .type "list", dict := none, data := .seq xs n, slots := #[] } ∧ s.heap.get? b = some { cls := .type "tuple", dict := dd, data := .seq ys k, slots := sl } ∧
      R (.ok (.ret Value.none)) { s with heap := s.heap.update l (Obj.mapSeq fun x => x ++ ys), toks := s.toks }) :=
  .of_wp fun prog w A R s ⟨hl, hb, done⟩ => by
    obtain ⟨hp, g, d, tk, os⟩ := s
    have g1 := AutoSeq1.idx_int
    have g2 := AutoSeq1.sub_tuple_tuple
    have g3 := AutoSeq1.sub_list_list
    have g4 := AutoSeq1.sub_tuple_list
    have g5 := AutoSeq1.sub_list_tuple
    have z : (xs ++ ys).size ≤ sizeLine + 1 := by
      rw [Array.size_append]
      exact c2
    wp_walk using (wpAny_updateSeq hl rfl (hz := c1) (_hz' := z)), wpAny_loadPart' hl, wpAny_loadPart' hb
    exact ⟨_, rfl, done⟩
def rExtendT (K : PySem.W.Frag) : V → List V → Hp → VK → Prop := fun x vs H Q => ∃ l b xs zs, x = .ref l ∧ vs = [.ref b] ∧ H l = some (.lst xs) ∧ SqT K H b zs ∧ xs.length + zs.length ≤ sizeLine ∧ Q .non (upd H l (.lst (xs ++ zs)))
theorem mt_extendT {X : Cx} : MtR X "list.extend" (rExtendT X.K) := by
  intro pins s σ H x vs v us Q I rx rv ⟨l, b, xs, zs, ex, ev, hH, hB, hz, q⟩
  subst ex ev
  cases rx
  obtain ⟨u, rfl, ru⟩ := rv.one
  cases ru
  obtain ⟨z, its, n, r, hl, e⟩ := I.lstM hH
  obtain ⟨its2, r2, ⟨o, e2, ec, k, ed⟩, _⟩ := I.tuple hB
  obtain ⟨cls, dd, data, sl⟩ := o
  simp only at ec ed
  subst ec ed
  have l2 := r2.length
  have sz : its.toArray.size + its2.toArray.size ≤ sizeLine := by simp; omega
  refine call_meets F.slot_list_extend ⟨_, e, rfl⟩ F.entry_list_extend (F.args_list_extend_2 _ _) (extT_meets l b its.toArray its2.toArray n k dd sl (by rw [notLongL sz]; simp) (by simp; omega) (by omega)) ⟨e, e2, ?_⟩
  exact ⟨.non, _, I.lset (its' := its ++ its2) hH e (by simp) (r.append r2) (by rw [List.length_append]; omega), rfl, q⟩
def sExt (i : Nat) (m : EM) : SM := fun ρ => do
  let _ ← (lstAt i ρ).nox
  let (h, ρ1) ← m ρ
  let d ← (h.d ρ1).nox
  let ds ← (lstAt i ρ1).nox
  match d with
  | .lst es => if szOk (ds.length + es.length) = true then pure (.nx, ρ1.set i (some (.lst (ds ++ es)))) else .stk
  | .tup es => if szOk (ds.length + es.length) = true then pure (.nx, ρ1.set i (some (.lst (ds ++ es)))) else .stk
  | _ => .stk
section
variable {K : PySem.W.Frag} {X : Cx} {P0 : Pr} {O W U : List Nat} {E : EK} {e : Expr} {ma : EM} {pos : Pos}
def rExtA (K : PySem.W.Frag) : V → List V → Hp → VK → Prop := fun x vs H Q => rExtend x vs H Q ∨ rExtendT K x vs H Q
theorem mt_extA : MtR X "list.extend" (rExtA X.K) := fun pins s σ H x vs v us Q I rx rv h => h.elim (mt_extend pins s σ H x vs v us Q I rx rv) (mt_extendT pins s σ H x vs v us Q I rx rv)
theorem tM_ext {i : Nat} (hi : i ∈ O) (D : Ends) (σ : St) (H : Hp) (h : tSt K P0 O W U E (sExt i ma) D σ H) : tDrop (tBM K "list" (rExtA K) (tVar i) (tCons (tM K P0 O W E ma) tNil)) D σ H := by
  obtain ⟨ρ, S, h⟩ := h
  obtain ⟨ds0, e0, h⟩ := h.of_nox
  obtain ⟨l, vs0, h1, h2, _⟩ := S.lst hi (lstAt_ok e0)
  refine ⟨.ref l, h1, .inl ⟨rfl, _, SqL.of h2⟩, ρ, S, (h.of_bind.down S.sub).mono fun ⟨hd, ρ1⟩ q v H1 S1 k1 r1 => ?_⟩
  obtain ⟨d, e1, q⟩ := q.of_nox
  obtain ⟨ds, e2, q⟩ := q.of_nox
  obtain ⟨l', vs, h1', h3, h4⟩ := S1.lst hi (lstAt_ok e2)
  rw [h1] at h1'
  cases h1'
  have rd := HdR.d S1 r1 e1
  cases d <;> first | (exact q.elim) | skip
  · rename_i es _
    have rd : Rep K H1 (.tup es) (FA P0 O σ) v := rd
    unfold Rep at rd
    obtain ⟨b, ws, rfl, h5, h6⟩ := rd
    have q : Res E O σ H (if szOk (ds.length + es.length) = true then R.ok (Fl.nx, ρ1.set i (some (.lst (ds ++ es)))) else .stk) _ := q
    by_cases c : szOk (ds.length + es.length) = true
    · rw [if_pos c] at q
      have c := of_decide_eq_true c
      exact .inr ⟨l, b, vs, ws, rfl, rfl, h3, SqT.of h5, by rw [h4.length, h6.length]; omega, q σ _ (S1.lstW hi h1 h3 (h4.append h6)) (Tr.ownW S.sub k1 hi h1) rfl⟩
    · rw [if_neg c] at q
      exact q.elim
  · rename_i es _
    obtain ⟨b, ws, rfl, h5, h6⟩ := rd
    have q : Res E O σ H (if szOk (ds.length + es.length) = true then R.ok (Fl.nx, ρ1.set i (some (.lst (ds ++ es)))) else .stk) _ := q
    by_cases c : szOk (ds.length + es.length) = true
    · rw [if_pos c] at q
      have c := of_decide_eq_true c
      exact .inl ⟨l, b, vs, ws, rfl, rfl, h3, h5, by rw [h4.length, h6.length]; omega, q σ _ (S1.lstW hi h1 h3 (h4.append h6)) (Tr.ownW S.sub k1 hi h1) rfl⟩
    · rw [if_neg c] at q
      exact q.elim
theorem cs_ext {i : Nat} {x : Str} {p ap cp : Pos} (h : CEx X P0 O W E e ma) (hi : i ∈ O := by decide) (hx : X.N[i]? = some x := by rfl) (hv : Vis X.env.scope x := by first | exact Or.inl rfl | exact Or.inr (Or.inl rfl) | exact Or.inr (Or.inr rfl)) (hd : (x == ("__debug__" : Str)) = false := by decide) (hcd : (x == ("__classdict__" : Str)) = false := by decide)
    (he : starEach [e] X.env = (false, eval e X.env) :: starEach [] X.env := by rfl) (hpl : (backTo cp (starEach [] X.env)).any (·.1) = false := by rfl) (hbase : attributeBase (.Name x p) "extend" X.env (eval (.Name x p) X.env) = eval (.Name x p) X.env := by rfl) (hline : (ap.endLine == cp.line) = true := by rfl)
    (hfew : Few X cp [e] := by rfl) (hsw : swapsWith (.Call (.Attribute (.Name x p) "extend" ap) [e] [] cp) none pos.line X.env = pure false := by rfl) :
    CS X P0 O W U E (.Expr (.Call (.Attribute (.Name x p) "extend" ap) [e] [] cp) pos) (sExt i ma) :=
  PS.imp (ps_expr (pe_bm PySem.F.plainAttrs_list PySem.F.slot_list_extend PySem.F.type_list_extend mt_extA (pe_var (i := i) hx hv hd hcd) (pa_cons h pa_nil he) hbase hfew hline he hpl) hsw) (tM_ext hi)
end
variable {ρ : Y.Env}
@[simp] theorem e_ext {i : Nat} {m : EM} : sExt i m ρ = ((lstAt i ρ).nox >>= fun _ => m ρ >>= fun p => (p.1.d p.2).nox >>= fun d => (lstAt i p.2).nox >>= fun ds => match d with | .lst es => (if szOk (ds.length + es.length) = true then R.ok (.nx, p.2.set i (some (.lst (ds ++ es)))) else .stk) | .tup es => (if szOk (ds.length + es.length) = true then R.ok (.nx, p.2.set i (some (.lst (ds ++ es)))) else .stk) | _ => .stk) := by
  unfold sExt; congr
end Y

set_option Elab.async false
set_option linter.all false
set_option maxRecDepth 100000
namespace Y
open PySem PySem.Spec PyProof.Rows L2
variable {ρ : Y.Env}
@[simp] theorem e_rg1 {l : Bool} {m : EM} : cRg1 l m ρ = (m ρ >>= fun p => p.1.v.nox >>= fun d => match d with | .int n => (if rgB 0 n = true then R.ok (.fr (if l = true then .lst (rgD 0 n) else .tup (rgD 0 n)), p.2) else .stk) | _ => .stk) := by
  unfold cRg1; congr
@[simp] theorem e_popAt {i : Nat} {m : EM} : cPopAt i m ρ = ((lstAt i ρ).nox >>= fun _ => m ρ >>= fun p => p.1.v.nox >>= fun d => match d with | .int z => ((lstAt i p.2).nox >>= fun ds => popRes i ds z p.2) | _ => .stk) := by
  unfold cPopAt; congr
theorem rgB_of {n : Nat} (h : n ≤ 16777216) : rgB 0 n = true := by
  unfold rgB
  rw [rngOk_of (by omega) (by omega), rngOk_of (by omega) (by omega)]
  simp; omega
theorem rgD_nat {n : Nat} : rgD 0 n = (List.range n).map fun k : Nat => D.int (k : Nat) := by unfold rgD; simp
end Y

set_option Elab.async false
set_option linter.all false
set_option maxRecDepth 100000
namespace Y
open PySem PySem.Spec PyProof.Rows L2
inductive Kd where
  | l (a : Addr) | t (a : Addr) | s (z : Str)
def strV (z : Str) : List V := z.cps.toList.map fun c => V.str ⟨#[c]⟩
def Kd.has (K : PySem.W.Frag) (H : Hp) : Kd → List V → Prop
  | .l a, xs => SqL K H a xs
  | .t a, xs => SqT K H a xs
  | .s z, xs => xs = strV z
def Kd.val : Kd → V
  | .l a => .ref a
  | .t a => .ref a
  | .s z => .str z
def Kd.lo : Kd → Nat → Prop
  | .l a, n => a < n
  | .t a, n => a < n
  | .s _, _ => True
/-- the iterator it over it, i items told -/
def Kd.at (it : Addr) (tk : Tok) : Kd → Nat → Heap → Prop
  | .l a, i, h => h.IsListIter it a i
  | .t a, i, h => h.IsTupleIter it a i
  | .s z, i, h => h.IsStrIter it (strIterType z) z tk i
section
variable {X : Cx} {pins : List (Addr × Obj)} {σ : St} {H : Hp} {s : Shared}
theorem Kd.inj {k : Kd} {xs ys : List V} (I : Inv X pins σ H s) (h : k.has X.K H xs) (h2 : k.has X.K H ys) : xs = ys := by
  cases k with
  | l a => exact I.list_inj h h2
  | t a => exact I.tuple_inj h h2
  | s z => exact Eq.trans h (Eq.symm h2)
end
theorem ad {a b : Nat} (h : ¬ a = b) : @Ne Addr a b := h
section
variable {X : Cx} {pins : List (Addr × Obj)} {σ : St} {H : Hp} {s : Shared}
end
def kdOf : D → V → Option Kd
  | .lst _, .ref a => some (.l a)
  | .arg _, .ref a => some (.l a)
  | .tup _, .ref a => some (.t a)
  | .str z, _ => some (.s z)
  | .ftu _, .ref a => some (.t a)
  | _, _ => none
section
variable {K : PySem.W.Frag} {P0 : Pr} {O W : List Nat} {ρ ρ' : Env} {σ σ' : St} {H H' Hs : Hp} {h h2 : Hd} {d d2 : D} {v : V}
/-- a datum that is walked: its kind and the items' values -/
theorem RepW.kd {ds : List D} {P : Pr} (r : RepW K H d P v) (e : itD d = .ok ds) : ∃ k vs, v = Kd.val k ∧ k.has K H vs ∧ Reps K H ds P vs ∧ kdOf d v = some k := by
  cases d <;> simp only [itD, R.ok.injEq, reduceCtorEq] at e
  · subst e
    rename_i z
    obtain rfl := r.str
    refine ⟨.s z, strV z, rfl, rfl, ?_, rfl⟩
    unfold strV
    generalize z.cps.toList = l
    induction l with
    | nil => exact Reps.nil
    | cons c l ih => exact Reps.cons (by unfold Rep; rfl) ih
  · subst e
    obtain ⟨a, vs, rfl, t1, t2⟩ := r.tup
    exact ⟨.t a, vs, rfl, SqT.of t1, t2, rfl⟩
  · subst e
    obtain ⟨a, vs, rfl, t1, t2⟩ := r.lst
    exact ⟨.l a, vs, rfl, SqL.of t1, t2, rfl⟩
  · subst e
    obtain ⟨a, rfl, t1⟩ := r.arg
    exact ⟨.l a, _, rfl, t1, reps_ints _, rfl⟩
  · subst e
    obtain ⟨a, vs, o, rfl, t1, _, t2⟩ := r.ftu
    exact ⟨.t a, vs, rfl, SqT.fz t1, t2, rfl⟩
/-- .. from what holds of it -/
theorem Hold.kd {ds : List D} {k : Kd} (S : Sim K P0 O W ρ σ H) (o : Hold K O h d v P0 ρ σ H) (e : itD d = .ok ds) (ek : kdOf d v = some k) : ∃ vs, k.has K H vs ∧ Reps K H ds (FA P0 O σ) vs := by
  obtain ⟨k', vs, _, h1, h2, h3⟩ := (o.rep S).kd e
  rw [ek] at h3; cases h3
  exact ⟨vs, h1, h2⟩
end
section
variable {X : Cx} {P0 : Pr} {O W : List Nat} {E : EK} {a b c e tg : Expr} {es : List Expr} {ma mb mc : EM} {ms : AM} {pos : Pos}
end
section
variable {ρ : Y.Env}
end
abbrev fp2 (n : Nat) : List Addr := [n + 1, n]
section
variable {X : Cx} {P0 : Pr} {O W : List Nat} {E : EK} {a b c e tg : Expr} {es : List Expr} {ma mb mc : EM} {ms : AM} {pos : Pos}
section
variable {K : PySem.W.Frag} {ρ ρ' : Env} {σ σ' : St} {H H' Hs : Hp} {h h2 : Hd} {d d2 : D} {v : V}
end
end
section
variable {ρ : Y.Env}
end
end Y

set_option Elab.async false
set_option linter.all false
set_option maxRecDepth 100000
namespace Y
open PySem PySem.Spec PyProof.Rows L2
abbrev veB : List Value := [.type "ValueError", .type "Exception", .type "BaseException", .type "object"]
structure ErrT (K : PySem.W.Frag) (mg : Str → Option Value) (x : Str) : Prop where
  ex : ∃ C, mg x = some (.ref C) ∧ PySem.W.excIn K C veB "ValueError.__new__" = true ∧ PySem.W.keepIn K (.ref C) = true ∧ PySem.W.subIn K (.ref C) (.type "BaseException") = some true ∧ PySem.W.typeIn K (.ref C) = some (.type "type")
def sRaise (c : Str) : SM := fun _ => .er c []
section
variable {K : PySem.W.Frag} {X : Cx} {P0 : Pr} {O W U : List Nat} {E : EK} {XE : XK} {e : Expr} {ma : EM} {pos : Pos}
theorem cs_raise {x m : Str} {j : Nat} {p p2 q pos : Pos} (T : ErrT X.K X.mg x) (hc : X.calm = true) (tk : L2N.Takes X fun cls d _ H => XE cls d H) (hg : Gl X x := by rfl) (hdb : (x == ("__debug__" : Str)) = false := by decide) :
    CS X P0 O W U (exE X.mg XE) (.Raise (some (.Call (.Name x p) [.Constant (.str m) j p2] [] q)) none pos) (sRaise x) := by
  obtain ⟨C, gC, q, kC, b, t⟩ := T.ex
  refine PS.imp (L2N.ps_raise hc tk (L2N.pmk_own PySem.F.excBase_ValueError q gC kC (raises_own b t) hg hdb)) fun D σ H ⟨ρ, S, h⟩ => ?_
  obtain ⟨_, C', e1, e2⟩ := h H (Keep.refl)
  rw [gC] at e1; cases e1
  exact e2
end
@[simp] theorem e_raise {c : Str} {ρ : Y.Env} : sRaise c ρ = .er c [] := id rfl
end Y

set_option Elab.async false
set_option linter.all false
set_option maxRecDepth 100000
namespace Y
open PySem PySem.Spec PyProof.Rows L2
section
variable {P : Program} {w : World} {A : Around} {E : Value → Shared → Prop} {s : Shared}
end
end Y

set_option Elab.async false
set_option linter.all false
set_option maxRecDepth 100000
namespace Y
open PySem PySem.Spec PyProof.Rows L2
section
variable {X : Cx}
end
def seqI : D → Option (List Int)
  | .lst ds => intsOf ds
  | .tup ds => intsOf ds
  | .arg ns => some ns
  | _ => none
section
variable {K : PySem.W.Frag} {X : Cx} {P0 : Pr} {O W : List Nat} {E : EK} {a e : Expr} {ma : EM} {pos : Pos}
theorem RepW.seqI {H : Hp} {d : D} {P : Pr} {v : V} {ns : List Int} (r : RepW K H d P v) (e : seqI d = some ns) : ∃ l, v = .ref l ∧ (SqL K H l (ns.map V.int) ∨ SqT K H l (ns.map V.int)) := by
  cases d <;> simp only [Y.seqI, reduceCtorEq, Option.some.injEq] at e
  · obtain ⟨l, vs, rfl, t1, t2⟩ := r.tup
    rw [ints_rep e t2] at t1
    exact ⟨l, rfl, .inr (SqT.of t1)⟩
  · obtain ⟨l, vs, rfl, t1, t2⟩ := r.lst
    rw [ints_rep e t2] at t1
    exact ⟨l, rfl, .inl (SqL.of t1)⟩
  · subst e
    obtain ⟨l, rfl, t1⟩ := r.arg
    exact ⟨l, rfl, .inl t1⟩
end
variable {ρ : Y.Env}
@[simp] theorem seqI_l {ns : List Int} : seqI (.lst (ns.map D.int)) = some ns := ints_map ns
@[simp] theorem seqI_t {ns : List Int} : seqI (.tup (ns.map D.int)) = some ns := ints_map ns
end Y

set_option Elab.async false
set_option linter.all false
set_option maxRecDepth 100000
namespace Y
open PySem PySem.Spec PyProof.Rows L2
section
variable {K : PySem.W.Frag} {X : Cx} {P0 : Pr} {O W U : List Nat} {E : EK} {a b e : Expr} {sts : List Stmt} {ma mb : EM} {pos : Pos}
theorem cs_stk : CSs X P0 O W U E sts (fun _ => .stk) := ⟨fun pins s σ H D I ⟨ρ, S, h⟩ => h.elim⟩
def indexD : D → D → R D
  | .lst ds, y => if (dOk (.lst ds) && dOk y) = true then (match ds.findIdx? fun z => eqP z y with | some j => .ok (.int j) | none => .stk) else .stk
  | .str x, .str y => (match Builtin.Str.occurrences x y 0 x.length 1 with | i :: _ => .ok (.int (i : Nat)) | [] => .stk)
  | _, _ => .stk
def cIndex (a b : EM) : EM := fun ρ => do
  let (h1, ρ1) ← a ρ
  let x0 ← (h1.d ρ1).nox
  match x0 with
  | .str x => do
    let (h2, ρ2) ← b ρ1
    let y ← (h2.d ρ2).nox
    let z ← (indexD (.str x) y).nox
    pure (.fr z, ρ2)
  | .lst _ => do
    let (h2, ρ2) ← b ρ1
    let x ← (h1.d ρ2).nox
    let y ← (h2.d ρ2).nox
    let z ← (indexD x y).nox
    pure (.fr z, ρ2)
  | _ => .stk
theorem dps_find {y : D} : ∀ {ds : List D} {j : Nat}, (ds.findIdx? fun z => eqP z y) = some j → (∃ z, (toPys ds)[j]? = some z ∧ PyData.eqv z (toPy y) = true) ∧ ∀ (m : Nat) (z : PyData), m < j → (toPys ds)[m]? = some z → PyData.eqv z (toPy y) = false
  | [], j, h => by simp at h
  | d :: ds, j, h => by
    rw [List.findIdx?_cons] at h
    by_cases c : eqP d y = true
    · rw [if_pos c] at h
      cases h
      exact ⟨⟨toPy d, by unfold toPys; rfl, c⟩, fun m z hm => by omega⟩
    · rw [if_neg c] at h
      cases e : ds.findIdx? fun z => eqP z y with
      | none => rw [e] at h; cases h
      | some i =>
        rw [e] at h
        cases h
        obtain ⟨⟨z, e1, e2⟩, e3⟩ := dps_find e
        refine ⟨⟨z, by unfold toPys; simpa using e1, e2⟩, fun m z hm hz => ?_⟩
        unfold toPys at hz
        cases m with
        | zero => simp at hz; subst hz; exact Bool.not_eq_true _ ▸ c
        | succ m => exact e3 m z (by have hm : m + 1 < i + 1 := hm; omega) (by simpa using hz)
theorem ce_index {apos : Pos} (hu : X.A.units + 65 < cLine) (ha : CEx X P0 O W E a ma) (hb : CEx X P0 O W E b mb) (hs : starEach [b] X.env = (false, eval b X.env) :: starEach [] X.env := by rfl) (hs2 : starEach [b] X.env = [(false, eval b X.env)] := by rfl) (hpl : (backTo pos (starEach [] X.env)).any (·.1) = false := by rfl)
    (hbase : attributeBase a "index" X.env (eval a X.env) = eval a X.env := by rfl) (hline : (apos.endLine == pos.line) = true := by rfl) (hfew : Few X pos [b] := by rfl) : CEx X P0 O W E (.Call (.Attribute a "index" apos) [b] [] pos) (cIndex ma mb) :=
  PE.imp (PE.or (pe_bm PySem.F.plainAttrs_list PySem.F.slot_list_index PySem.F.type_list_index (mt_indexD hu) ha (pa_cons hb pa_nil hs) hbase hfew hline hs hpl)
    (pe_m1 PySem.F.slot_str_index PySem.F.type_str_index mt_sindex ha hb hs2 hbase hline)) fun σ H Q ⟨ρ, S, h⟩ => by
    unfold cIndex at h
    cases em : ma ρ with
    | stk => rw [em] at h; exact h.elim
    | er c ds =>
      rw [em] at h
      exact .inl ⟨ρ, S, by rw [em]; exact h⟩
    | ok p =>
      obtain ⟨h1, ρ1⟩ := p
      rw [em] at h
      obtain ⟨x0, e0, h⟩ := Res.of_nox (show Res E W σ H ((h1.d ρ1).nox >>= _) _ from h)
      cases x0 <;> first | (exact h.elim) | skip
      · rename_i x
        refine .inr ⟨ρ, S, ?_⟩
        rw [em]
        intro v H1 S1 k1 r1
        obtain rfl := (r1.d S1 e0).str
        have h : Res E W σ H (mb ρ1 >>= fun q => (q.1.d q.2).nox >>= fun y => (indexD (.str x) y).nox >>= fun z => R.ok (Hd.fr z, q.2)) _ := h
        refine ⟨⟨x, rfl⟩, ρ1, S1, (h.of_bind.keep k1).mono fun ⟨h2, ρ2⟩ q w H2 S2 k2 r2 => ?_⟩
        obtain ⟨y, e2, q⟩ := q.of_nox
        obtain ⟨z, e3, q⟩ := q.of_nox
        have rw2 := r2.d S2 e2
        cases y <;> simp only [indexD, reduceCtorEq] at e3
        rename_i y
        obtain rfl := rw2.str
        split at e3
        · rename_i i rest eo
          cases e3
          exact ⟨x, y, i, rest, rfl, rfl, eo, (out_of (K := X.K) S2 (k1.trans k2) q).flat (by unfold Rep; rfl) rfl⟩
        · cases e3
      · rename_i ds0 _
        refine .inl ⟨ρ, S, ?_⟩
        rw [em]
        intro v H1 S1 k1 r1
        obtain ⟨l, vs, rfl, t1, t2⟩ := (r1.d S1 e0).lst
        have h : Res E W σ H (mb ρ1 >>= fun q => (h1.d q.2).nox >>= fun x => (q.1.d q.2).nox >>= fun y => (indexD x y).nox >>= fun z => R.ok (Hd.fr z, q.2)) _ := h
        refine ⟨.inl ⟨rfl, _, SqL.of t1⟩, ρ1, S1, (h.of_bind.keep k1).mono fun ⟨h2, ρ2⟩ q w H2 S2 k2 r2 => ?_⟩
        obtain ⟨x, e1, q⟩ := q.of_nox
        obtain ⟨y, e2, q⟩ := q.of_nox
        obtain ⟨z, e3, q⟩ := q.of_nox
        have rw1 := (r1.keep S1 k2).d S2 e1
        have rw2 := r2.d S2 e2
        have o := out_of (K := X.K) S2 (k1.trans k2) q
        cases x <;> simp only [indexD, reduceCtorEq] at e3
        · obtain ⟨_, _, e, _⟩ := rw1
        · rename_i ds _
          split at e3
          · rename_i c
            rw [Bool.and_eq_true] at c
            split at e3
            · rename_i j ej
              cases e3
              obtain ⟨⟨z, g1, g2⟩, g3⟩ := dps_find ej
              exact ⟨l, w, toPy y, toPys ds, j, z, rfl, rfl, by have q := rw1.dp c.1; unfold toPy at q; exact q, rw2.dp c.2, by have q := c.1; unfold dOk toPy at q; exact q, c.2, g1, g2, g3, o.flat (by unfold Rep; rfl) rfl⟩
            · cases e3
          · cases e3
end
variable {ρ : Y.Env}
@[simp] theorem e_index {a b : EM} : cIndex a b ρ = (a ρ >>= fun p => (p.1.d p.2).nox >>= fun x0 => match x0 with
    | .str x => (b p.2 >>= fun q => (q.1.d q.2).nox >>= fun y => (indexD (.str x) y).nox >>= fun z => R.ok (.fr z, q.2))
    | .lst _ => (b p.2 >>= fun q => (p.1.d q.2).nox >>= fun x => (q.1.d q.2).nox >>= fun y => (indexD x y).nox >>= fun z => R.ok (.fr z, q.2))
    | _ => .stk) := by
  unfold cIndex; congr
end Y

set_option Elab.async false
set_option linter.all false
set_option maxRecDepth 100000
namespace Y
open PySem PySem.Spec PyProof.Rows L2
theorem chkO_ws {O W : List Nat} {ρ : Y.Env} (h : (W.all fun i => O.contains i && shAt i ρ) = true) : chkO O W ρ ρ = .ok () := by
  unfold chkO
  rw [if_pos]
  intro j d e
  by_cases c : j ∈ W
  · have := List.all_eq_true.mp h j c
    rw [Bool.and_eq_true] at this
    obtain ⟨h1, h2⟩ := this
    unfold shAt at h2
    rw [e] at h2
    exact .inr (.inl ⟨by simpa using h1, h2⟩)
  · exact .inl ⟨e, c⟩
theorem nls_map {α : Type} {f : α → D} {xs : List α} (h : ∀ x ∈ xs, (f x).nl = true) : nls (xs.map f) = true := nls_all fun d hd => by
  obtain ⟨x, hx, rfl⟩ := List.mem_map.mp hd
  exact h x hx
end Y

set_option Elab.async false
set_option linter.all false
set_option maxRecDepth 100000
namespace Y
open PySem PySem.Spec PyProof.Rows L2
section
variable {X : Cx} {P0 : Pr} {O W : List Nat} {E : EK} {XE : XK} {e : Expr} {es : List Expr} {ms : AM} {pos : Pos} {k np : Nat} {name : Str}
end
end Y

set_option Elab.async false
set_option linter.all false
set_option maxRecDepth 100000
namespace Y.HR
open PySem PySem.Spec PyProof.Rows L2 _root_.HT PySem.W PySem.SeqAt PySem.AutoSeq1 PySem.MeetsSeq PySem.MeetsSeq2 PySem.MeetsSeq3
section
variable {prog : Program} {w : World} {A : Around} {E : Value → Shared → Prop} {s : Shared}
end
end Y.HR
namespace Y
open PySem PySem.Spec PyProof.Rows L2
def RvR (X : Cx) (r : V → Hp → VK → Prop) : Prop :=
  ∀ (pins : List (Addr × Obj)) (s : Shared) (σ : St) (H : Hp) (x : V) (v vk : Value) (sl : Addr) (Q : VK), Inv X pins σ H s → RelV x v → s.heap.IsSliceOf sl .none .none vk → IsPart vk (some (-1)) → r x H Q →
    ∃ T id, typeLookup (.type T) "__getitem__" = pure (some (.builtin id)) ∧ s.TypeIs v T ∧ wpAny (model X.prog X.w) X.A (getItem v (.ref sl)) (EP X pins σ Q) X.xe s
theorem RvR.or {X : Cx} {r r' : V → Hp → VK → Prop} (h : RvR X r) (h' : RvR X r') : RvR X (fun x H Q => r x H Q ∨ r' x H Q) := by
  intro pins s σ H x v vk sl Q I rx hs pk q
  rcases q with q | q
  · exact h pins s σ H x v vk sl Q I rx hs pk q
  · exact h' pins s σ H x v vk sl Q I rx hs pk q
section
variable {X : Cx} {e k : Expr} {te : TE} {p2 pos : Pos}
variable {P0 : Pr} {O W : List Nat} {E : EK} {ma : EM} {mk : OM}
end
@[simp] theorem d_mulS {x : Str} {k : Int} : mulD (.str x) (.int k) = if k < 2 ^ 20 ∧ -(2 ^ 20) < k ∧ szOk (x.length * k.toNat) = true then .ok (.str (repS k x)) else .stk := id rfl
@[simp] theorem d_mulT {x : List D} {k : Int} : mulD (.tup x) (.int k) = if x.isEmpty = false ∧ -(2 ^ 20) < k ∧ k ≤ 1000 ∧ x.length ≤ 1000 then .ok (.tup (List.replicate k.toNat x).flatten) else .stk := id rfl
@[simp] theorem d_mulL {x : List D} {k : Int} : mulD (.lst x) (.int k) = if k < 2 ^ 20 ∧ -(2 ^ 20) < k ∧ szOk (x.length * k.toNat) = true then .ok (.lst (List.replicate k.toNat x).flatten) else .stk := id rfl
end Y

set_option Elab.async false
set_option linter.all false
set_option maxRecDepth 100000
namespace Y
open PySem PySem.Spec PyProof.Rows L2
section
variable {K : PySem.W.Frag} {P0 : Pr} {O W U : List Nat} {ρ : Y.Env} {σ : L2.St} {H : Hp}
theorem RepO.less2 {d : D} {P P' : Pr} {v : V} (hm : ∀ b, P b → isMut (H b)) (h : RepO K H d P v) (hp : ∀ b, P' b → P b) : RepO K H d P' v := h.mono hm (fun _ _ e _ => e) (fun b z => .inl (hp b z)) fun _ _ _ e => e
end
theorem Res.chg {E : EK} {O O1 : List Nat} {σ σ1 : L2.St} {H H1 : Hp} {α : Type} {r : R α} {k : α → Prop} (h : Res E O σ H r k) (f : ∀ H', Keep O1 σ1 H1 H' → Keep O σ H H') : Res E O1 σ1 H1 r k := by
  cases r with
  | ok a => exact h
  | er c ds => exact fun H' kp => h H' (f H' kp)
  | stk => exact h
section
variable {X : Cx} {P0 : Pr} {O W U : List Nat} {E : EK} {st2 : Stmt} {m : SM}
end
end Y

set_option Elab.async false
set_option linter.all false
set_option maxRecDepth 100000
namespace Y
open PySem PySem.Spec PyProof.Rows L2
section
variable {K : PySem.W.Frag} {H : Hp} {P : Pr}
end
section
variable {X : Cx} {P0 : Pr} {Oc : List Nat} {E : EK} {XE : XK} {e : Expr} {es : List Expr} {ms : AM} {pos : Pos} {k np : Nat} {name : Str}
end
end Y

set_option Elab.async false
set_option linter.all false
set_option maxRecDepth 100000
namespace Y
open PySem PySem.Spec PyProof.Rows L2
section
variable {κ : Type} [DecidableEq κ]
def findD : List κ → List D → κ → Option D
  | k' :: ks, d :: ds, k => if k' = k then some d else findD ks ds k
  | _, _, _ => none
theorem findD_rep {K : PySem.W.Frag} {H : Hp} {P : Pr} {k : κ} : ∀ {ks : List κ} {ds : List D} {vs : List V}, Reps K H ds P vs → ks.length = vs.length →
    (∀ d, findD ks ds k = some d → ∃ v, valV (ks.zip vs) k = some v ∧ Rep K H d P v) ∧ (findD ks ds k = none → valV (ks.zip vs) k = none)
  | [], ds, vs, h, hl => by
    have : vs = [] := List.eq_nil_of_length_eq_zero hl.symm
    subst this
    exact ⟨fun d e => by simp [findD] at e, fun _ => rfl⟩
  | k' :: ks, [], vs, h, hl => by
    have : vs = [] := h.nil_iff
    subst this
    simp at hl
  | k' :: ks, d' :: ds, vs, h, hl => by
    obtain ⟨v, ws, rfl, h1, h2⟩ := h.cons_iff
    obtain ⟨i1, i2⟩ := findD_rep (k := k) (ks := ks) h2 (by simpa using hl)
    by_cases e : k' = k
    · refine ⟨fun d q => ?_, fun q => ?_⟩
      · rw [findD, if_pos e] at q
        cases q
        exact ⟨v, by rw [List.zip_cons_cons]; exact valV_pos e, h1⟩
      · rw [findD, if_pos e] at q; cases q
    · refine ⟨fun d q => ?_, fun q => ?_⟩
      · rw [findD, if_neg e] at q
        obtain ⟨w, w1, w2⟩ := i1 d q
        exact ⟨w, by rw [List.zip_cons_cons, valV_neg e]; exact w1, w2⟩
      · rw [findD, if_neg e] at q
        rw [List.zip_cons_cons, valV_neg e]
        exact i2 q
end
def keyOf : D → Option Key
  | .int i => some (.inl i)
  | .str x => some (.inr x)
  | _ => none
def keysOf : List D → Option (List Key)
  | [] => some []
  | d :: ds => match keyOf d with
    | some k => (keysOf ds).map (k :: ·)
    | none => none
theorem keyOf_rep {K : PySem.W.Frag} {H : Hp} {P : Pr} {d : D} {v : V} {k : Key} (h : RepW K H d P v) (e : keyOf d = some k) : v = kV k := by
  cases d <;> simp only [keyOf, Option.some.injEq, reduceCtorEq] at e
  · subst e; rw [h.int]; rfl
  · subst e; rw [h.str]; rfl
theorem keysOf_rep {K : PySem.W.Frag} {H : Hp} {P : Pr} : ∀ {ds : List D} {vs : List V} {ks : List Key}, Reps K H ds P vs → keysOf ds = some ks → vs = ks.map kV
  | [], vs, ks, h, e => by simp [keysOf] at e; subst e; exact h.nil_iff
  | d :: ds, vs, ks, h, e => by
    obtain ⟨v, ws, rfl, h1, h2⟩ := h.cons_iff
    unfold keysOf at e
    cases q : keyOf d with
    | none => rw [q] at e; cases e
    | some k =>
      rw [q] at e
      cases r : keysOf ds with
      | none => rw [r] at e; cases e
      | some ks' =>
        rw [r] at e
        cases e
        have i := keysOf_rep h2 r
        have j : v = kV k := by
          cases d <;> simp only [keyOf, Option.some.injEq, reduceCtorEq] at q
          · subst q; unfold Rep at h1; rw [h1]; rfl
          · subst q; unfold Rep at h1; rw [h1]; rfl
        rw [i, j]; rfl
/-- what d holds at the key: none where it holds nothing -/
def getDic : D → D → R (Option D)
  | .dik ks ds, y => match keyOf y with
    | some k => .ok (findD ks ds k)
    | none => .stk
  | .dit ks ds, .tup ys => match keysOf ys with
    | some k => .ok (findD ks ds k)
    | none => .stk
  | _, _ => .stk
section
variable {K : PySem.W.Frag} {H : Hp} {P : Pr}
theorem getDic_rep {dx dy : D} {x y : V} {o : Option D} (rx : RepW K H dx P x) (ry : RepW K H dy P y) (e : getDic dx dy = .ok o) :
    ∃ a r, x = .ref a ∧ DGet H a y r ∧ r.isSome = o.isSome ∧ ∀ d, o = some d → ∃ v, r = some v ∧ Rep K H d P v := by
  unfold getDic at e
  split at e
  · rename_i ks ds
    obtain ⟨a, vs, rfl, hl, rd, rs⟩ := rx
    cases q : keyOf dy with
    | none => rw [q] at e; cases e
    | some k =>
      rw [q] at e
      cases e
      obtain ⟨f1, f2⟩ := findD_rep (k := k) rs hl
      refine ⟨a, valV (ks.zip vs) k, rfl, .inl ⟨_, k, rd, keyOf_rep ry q, rfl⟩, ?_, f1⟩
      cases z : findD ks ds k with
      | none => rw [f2 z]; rfl
      | some d => obtain ⟨v, v1, _⟩ := f1 d z; rw [v1]; rfl
  · rename_i ks ds ys
    obtain ⟨a, vs, rfl, hl, rd, rs⟩ := rx
    obtain ⟨b, us, rfl, h1, h2⟩ := ry.tup
    cases q : keysOf ys with
    | none => rw [q] at e; cases e
    | some k =>
      rw [q] at e
      cases e
      obtain ⟨f1, f2⟩ := findD_rep (k := k) rs hl
      have eu := keysOf_rep h2 q
      subst eu
      refine ⟨a, valV (ks.zip vs) k, rfl, .inr ⟨_, k, b, rd, rfl, h1, rfl⟩, ?_, f1⟩
      cases z : findD ks ds k with
      | none => rw [f2 z]; rfl
      | some d => obtain ⟨v, v1, _⟩ := f1 d z; rw [v1]; rfl
  · cases e
end
section
variable {X : Cx} {P0 : Pr} {O W : List Nat} {E : EK} {a b : Expr} {ma mb : EM} {pos : Pos}
end
section
variable {K : PySem.W.Frag} {P0 : Pr} {O W U : List Nat} {ρ : Y.Env} {σ : L2.St} {H : Hp}
theorem Sim.newO (S : Sim K P0 O W ρ σ H) {i : Nat} {p : Addr} {d : D} {o : HO} (hi : i ∈ O) (hl : i < ρ.length) (hp : H p = none) (ho : isMut (some o)) (r : ∀ P, RepO K (upd H p o) d P (.ref p)) : Sim K P0 O W (ρ.set i (some d)) (σ.set i (some (.ref p))) (upd H p o) := by
  have hs : i < σ.length := Nat.lt_of_lt_of_le hl S.len
  have np : ¬ FA P0 O σ p := fun z => by have := S.dom p z; rw [hp] at this; exact this
  have gs : ∀ {j : Nat} {b : Addr}, j ∈ O → (σ.set i (some (V.ref p)))[j]? = some (some (.ref b)) → (j = i ∧ b = p) ∨ (j ≠ i ∧ σ[j]? = some (some (.ref b))) := fun {j b} hj e => by
    by_cases hij : i = j
    · subst hij
      rw [List.getElem?_set_self hs] at e
      cases e
      exact .inl ⟨rfl, rfl⟩
    · rw [List.getElem?_set_ne hij] at e
      exact .inr ⟨fun z => hij z.symm, e⟩
  have fa : ∀ b, FA P0 O (σ.set i (some (V.ref p))) b → FA P0 O σ b ∨ b = p := fun b z => by
    rcases z with z | ⟨j, hj, e⟩
    · exact .inl (.inl z)
    · rcases gs hj e with ⟨_, e⟩ | ⟨_, h2⟩
      · exact .inr e
      · exact .inl (.inr ⟨j, hj, h2⟩)
  have sm : Same H (upd H p o) := Same.new hp
  refine ⟨S.sub, by simpa using S.len, fun b z => ?_, fun j d' e n => ?_, fun j d' e n => ?_, fun j k a hj hk e1 e2 => ?_, fun a z hz => ?_⟩
  · by_cases hb : b = p
    · rw [hb, upd_same]; exact ho
    · rw [upd_ne hb]
      rcases fa b z with z | z
      · exact S.dom b z
      · exact absurd z hb
  · have hij : i ≠ j := fun z => n (by rw [← z]; exact hi)
    rw [List.getElem?_set_ne hij] at e ⊢
    obtain ⟨v, h1, h2⟩ := S.val j d' e n
    exact ⟨v, h1, h2.mono d' S.dom (fun b o e _ => sm b o e) fun b z => (fa b z).imp id fun e => by rw [e]; exact hp⟩
  · by_cases hij : i = j
    · subst hij
      rw [List.getElem?_set_self hl] at e
      cases e
      exact ⟨_, List.getElem?_set_self hs, r _⟩
    · rw [List.getElem?_set_ne hij] at e ⊢
      obtain ⟨v, h1, h2⟩ := S.own j d' e n
      exact ⟨v, h1, h2.mono S.dom (fun b o e _ => sm b o e) (fun b z => (fa b z).imp id fun e => by rw [e]; exact hp) fun a o _ e => sm a o e⟩
  · rcases gs hj e1 with ⟨a1, a2⟩ | ⟨a2, a3⟩
    · rcases gs hk e2 with ⟨b1, b2⟩ | ⟨b2, b3⟩
      · rw [a1, b1]
      · exact absurd (.inr ⟨k, hk, by rw [← a2]; exact b3⟩) np
    · rcases gs hk e2 with ⟨b1, b2⟩ | ⟨b2, b3⟩
      · exact absurd (.inr ⟨j, hj, by rw [← b2]; exact a3⟩) np
      · exact S.sep j k a hj hk a3 b3
  · obtain ⟨j, hj, e⟩ := z
    rcases gs hj e with ⟨_, e⟩ | ⟨_, h2⟩
    · exact np (.inl (by rw [← e]; exact hz))
    · exact S.sep0 a ⟨j, hj, h2⟩ hz
end
theorem tr_new {K : PySem.W.Frag} {P0 : Pr} {O W U : List Nat} {ρ : Y.Env} {σ : L2.St} {H : Hp} (S : Sim K P0 O W ρ σ H) {i : Nat} {p : Addr} {o : HO} (hi : i ∈ O) (hu : i ∉ U) (hl : i < ρ.length) (hp : H p = none) : Tr O U σ H (σ.set i (some (.ref p))) (upd H p o) where
  keep := fun b u e _ => by rw [upd_ne (ne_of_none e hp)]; exact e
  some := fun b e => by
    by_cases hb : b = p
    · rw [hb, upd_same]; intro z; cases z
    · rw [upd_ne hb]; exact e
  own := fun b ⟨j, hj, e⟩ => by
    by_cases hij : i = j
    · subst hij
      rw [List.getElem?_set_self (Nat.lt_of_lt_of_le hl S.len)] at e
      cases e
      exact .inr hp
    · rw [List.getElem?_set_ne hij] at e
      exact .inl ⟨j, hj, e⟩
  unch := fun j hj => List.getElem?_set_ne fun z => hu (by rw [z]; exact hj)
/-- tup: its keys will be tuples -/
def sDicNew (tup : Bool) (i : Nat) : SM := fun ρ => if i < ρ.length then .ok (.nx, ρ.set i (some (if tup = true then .dit [] [] else .dik [] []))) else .stk
section
variable {X : Cx} {P0 : Pr} {O W U : List Nat} {E : EK}
theorem cs_dicnew {tup : Bool} {i : Nat} {x : Str} {p p2 p3 : Pos} (hN : X.N.Nodup) (hi : i ∈ O := by decide) (hu : i ∉ U := by decide) (hx : X.N[i]? = some x := by rfl) (hl : Loc X.env.scope x := by first | exact Or.inl rfl | exact Or.inr rfl)
    (hf : X.fn x = true ∨ X.env.scope.names.lookup x = some .local := by first | exact .inl rfl | exact .inr rfl)
    (hs : swapsWithSole [.Name x p] (.Dict [] [] p2) p3.line X.env = pure false := by rfl) (hw : swappedStores [.Name x p] (.Dict [] [] p2) X.env = pure none := by rfl) :
    CS X P0 O W U E (.Assign [.Name x p] (.Dict [] [] p2) p3) (sDicNew tup i) := by
  cases tup with
  | false =>
    refine PS.imp (ps_asg pe_dnewK (pg_name hN hx hl hf) hs hw) fun D σ H ⟨ρ, S, h⟩ => fun q hq => ?_
    have h : Res E O σ H (if i < ρ.length then R.ok (Fl.nx, ρ.set i (some (.dik [] []))) else .stk) _ := h
    by_cases hlen : i < ρ.length
    · rw [if_pos hlen] at h
      exact h _ _ (S.newO hi hlen hq trivial fun P => ⟨q, [], rfl, rfl, upd_same, Reps.nil⟩) (tr_new S hi hu hlen hq) (by simp)
    · rw [if_neg hlen] at h; exact h.elim
  | true =>
    refine PS.imp (ps_asg pe_dnewT (pg_name hN hx hl hf) hs hw) fun D σ H ⟨ρ, S, h⟩ => fun q hq => ?_
    have h : Res E O σ H (if i < ρ.length then R.ok (Fl.nx, ρ.set i (some (.dit [] []))) else .stk) _ := h
    by_cases hlen : i < ρ.length
    · rw [if_pos hlen] at h
      exact h _ _ (S.newO hi hlen hq trivial fun P => ⟨q, [], rfl, rfl, upd_same, Reps.nil⟩) (tr_new S hi hu hlen hq) (by simp)
    · rw [if_neg hlen] at h; exact h.elim
end
end Y

set_option Elab.async false
set_option linter.all false
set_option maxRecDepth 100000
namespace Y
open PySem PySem.Spec PyProof.Rows L2
section
variable {κ : Type} [DecidableEq κ]
def setD : List κ → List D → κ → D → List D
  | k' :: ks, d' :: ds, k, d => (if k' = k then d else d') :: setD ks ds k d
  | _, _, _, _ => []
def setV : List κ → List V → κ → V → List V
  | k' :: ks, d' :: ds, k, d => (if k' = k then d else d') :: setV ks ds k d
  | _, _, _, _ => []
theorem setV_len {k : κ} {v : V} : ∀ {ks : List κ} {vs : List V}, ks.length = vs.length → (setV ks vs k v).length = ks.length
  | [], _, _ => rfl
  | _ :: _, [], h => by simp at h
  | _ :: ks, _ :: vs, h => by simp [setV, setV_len (ks := ks) (vs := vs) (by simpa using h)]
theorem set_rep {K : PySem.W.Frag} {H : Hp} {P : Pr} {k : κ} {d : D} {v : V} (r : Rep K H d P v) : ∀ {ks : List κ} {ds : List D} {vs : List V}, Reps K H ds P vs → ks.length = vs.length → Reps K H (setD ks ds k d) P (setV ks vs k v)
  | [], ds, vs, h, hl => by
    have : vs = [] := List.eq_nil_of_length_eq_zero hl.symm
    subst this
    cases ds <;> exact Reps.nil
  | k' :: ks, [], vs, h, hl => by
    have : vs = [] := h.nil_iff
    subst this
    simp at hl
  | k' :: ks, d' :: ds, vs, h, hl => by
    obtain ⟨w, ws, rfl, h1, h2⟩ := h.cons_iff
    have ih := set_rep (k := k) r (ks := ks) h2 (by simpa using hl)
    show Reps K H ((if k' = k then d else d') :: setD ks ds k d) P ((if k' = k then v else w) :: setV ks ws k v)
    by_cases e : k' = k
    · rw [if_pos e, if_pos e]; exact Reps.cons r ih
    · rw [if_neg e, if_neg e]; exact Reps.cons h1 ih
theorem map_put {k : κ} {v : V} : ∀ {ks : List κ} {vs : List V}, (ks.zip vs).map (fun kv => if kv.1 = k then (kv.1, v) else kv) = ks.zip (setV ks vs k v)
  | [], _ => rfl
  | _ :: _, [] => rfl
  | k' :: ks, w :: vs => by
    have ih := map_put (k := k) (v := v) (ks := ks) (vs := vs)
    rw [List.zip_cons_cons, List.map_cons, ih]
    show _ = (k' :: ks).zip ((if k' = k then v else w) :: setV ks vs k v)
    rw [List.zip_cons_cons]
    by_cases e : k' = k
    · rw [if_pos e, if_pos e]
    · rw [if_neg e, if_neg e]
theorem any_zip {k : κ} : ∀ {ks : List κ} {vs : List V}, ks.length = vs.length → ((ks.zip vs).any fun kv => decide (kv.1 = k)) = decide (k ∈ ks)
  | [], vs, h => by
    have : vs = [] := List.eq_nil_of_length_eq_zero h.symm
    subst this
    simp
  | _ :: _, [], h => by simp at h
  | k' :: ks, w :: vs, h => by
    have ih := any_zip (k := k) (ks := ks) (vs := vs) (by simpa using h)
    rw [List.zip_cons_cons, List.any_cons, ih, Bool.eq_iff_iff]
    simp only [Bool.or_eq_true, decide_eq_true_eq, List.mem_cons]
    exact ⟨fun h => h.imp (fun h => h.symm) id, fun h => h.imp (fun h => h.symm) id⟩
theorem zip_snoc {k : κ} {v : V} : ∀ {ks : List κ} {vs : List V}, ks.length = vs.length → ks.zip vs ++ [(k, v)] = (ks ++ [k]).zip (vs ++ [v])
  | [], vs, h => by
    have : vs = [] := List.eq_nil_of_length_eq_zero h.symm
    subst this
    rfl
  | _ :: _, [], h => by simp at h
  | k' :: ks, w :: vs, h => by
    have ih := zip_snoc (k := k) (v := v) (ks := ks) (vs := vs) (by simpa using h)
    rw [List.zip_cons_cons, List.cons_append, ih]
    rfl
def putKs (ks : List κ) (k : κ) : List κ := if k ∈ ks then ks else ks ++ [k]
def putDs (ks : List κ) (ds : List D) (k : κ) (d : D) : List D := if k ∈ ks then setD ks ds k d else ds ++ [d]
def putVs (ks : List κ) (vs : List V) (k : κ) (v : V) : List V := if k ∈ ks then setV ks vs k v else vs ++ [v]
theorem put_zip {k : κ} {v : V} {ks : List κ} {vs : List V} (hl : ks.length = vs.length) : putK (ks.zip vs) k v = (putKs ks k).zip (putVs ks vs k v) ∧ (putKs ks k).length = (putVs ks vs k v).length := by
  unfold putK putKs putVs
  rw [any_zip hl]
  by_cases c : k ∈ ks
  · rw [if_pos (decide_eq_true c), if_pos c, if_pos c, map_put]
    exact ⟨rfl, (setV_len hl).symm⟩
  · rw [if_neg (by simpa using c), if_neg c, if_neg c, zip_snoc hl]
    exact ⟨rfl, by simp [hl]⟩
theorem put_reps {K : PySem.W.Frag} {H : Hp} {P : Pr} {k : κ} {d : D} {v : V} {ks : List κ} {ds : List D} {vs : List V} (r : Rep K H d P v) (h : Reps K H ds P vs) (hl : ks.length = vs.length) : Reps K H (putDs ks ds k d) P (putVs ks vs k v) := by
  unfold putDs putVs
  by_cases c : k ∈ ks
  · rw [if_pos c, if_pos c]; exact set_rep r h hl
  · rw [if_neg c, if_neg c]; exact h.append (Reps.cons r Reps.nil)
end
def dicAt (i : Nat) (ρ : Y.Env) : R D := match ρ[i]? with
  | some (some (.dik ks ds)) => .ok (.dik ks ds)
  | some (some (.dit ks ds)) => .ok (.dit ks ds)
  | _ => .stk
section
variable {K : PySem.W.Frag} {X : Cx} {P0 : Pr} {O W U : List Nat} {E : EK} {e k : Expr} {ma mk : EM}
theorem dicAt_ok {i : Nat} {ρ : Y.Env} {x : D} (h : dicAt i ρ = .ok x) : ρ[i]? = some (some x) := by
  unfold dicAt at h
  split at h
  · rename_i q; cases h; exact q
  · rename_i q; cases h; exact q
  · cases h
end
end Y

set_option Elab.async false
set_option linter.all false
set_option maxRecDepth 100000
namespace Y
open PySem PySem.Spec PyProof.Rows L2
/-- a flow, or the class of a refusal -/
abbrev TM := Env → R ((Fl ⊕ Str) × Env)
abbrev XM := Env → R ((Hd ⊕ Str) × Env)
def sTry (i : Nat) (es : List Str) (m : TM) (h : Str → SM) : SM := fun ρ => do
  let (x, ρ1) ← (m ρ).nox
  match x with
  | .inl f => pure (f, ρ1)
  | .inr c => if c ∈ es ∧ i < ρ1.length then (do
      let (f, ρ2) ← (h c (ρ1.set i none)).nox
      pure (f, ρ2.set i none)) else .stk
/-- what an own class of refusals bears -/
structure ErrZ (K : PySem.W.Frag) (mg : Str → Option Value) (c : Str) : Prop where
  ex : ∃ C, mg c = some (.ref C) ∧ ExcC K C
/-- isinstance(e, x) of the classes es -/
structure IsF (K : PySem.W.Frag) (mg : Str → Option Value) (es : List Str) (x : Str) (f : Str → Bool) : Prop where
  ex : ∃ u, mg x = some (.ref u) ∧ ∀ c ∈ es, ∃ C, mg c = some (.ref C) ∧ PySem.W.kitOne K (.ref C) (.ref u) = some (f c)
/-- except x takes all of the classes es -/
structure CatF (K : PySem.W.Frag) (mg : Str → Option Value) (es : List Str) (x : Str) : Prop where
  ex : ∃ u, mg x = some (.ref u) ∧ ∀ c ∈ es, ∃ C, mg c = some (.ref C) ∧ PySem.W.exmOne K (.ref C) (.ref u) = some true
theorem call_isP {X : Cx} {a D : Addr} {oe : Obj} (Z : ExcC X.K D) (hz : Zc (.ref D) none oe) (hf : ∃ vs, oe.data = .fields vs) (hp : (a, oe) ∈ X.pn) : CallR X (.builtin "isinstance") (rIsE X.K D a) := by
  intro pins s σ H xs us Q I r q
  rcases q with ⟨c, cv, b, rfl, hc, kb, q⟩
  rcases r with _ | ⟨ra, r⟩
  rcases r with _ | ⟨rb, r⟩
  rcases r with _ | _
  have eu := hc _ rb
  subst eu
  obtain rfl := ra
  have g := (I.pin (a, oe) (List.mem_append_left _ hp)).1
  rcases hf with ⟨fs, hd⟩
  rcases oe with ⟨oc, od, oda, osl⟩
  rcases hz with ⟨z1, z2⟩
  dsimp only at z1 z2 hd
  subst z1; subst z2; subst hd
  have J : PySem.W.InstAt s.heap a ⟨.ref D, none, .fields fs, osl⟩ D none := ⟨g, rfl, rfl, trivial⟩
  exact PySem.W.kia_one (PySem.W.handS_kitx_exc Z.hg Z.hk Z.hs Z.hd Z.ha Z.hn Z.ht Z.hm) I.kIn J kb (fun y => nomatch y) fun tk => ⟨V.bl b, H, I.kept (t' := tk) fun _ _ y => y, rfl, q⟩
section
variable {X : Cx} {P0 : Pr} {O W U : List Nat} {E : EK} {XE : XK} {a b c e : Expr} {es : List Expr} {ma mb mc : EM} {ms : AM} {pos : Pos} {k np : Nat} {name : Str} {st : Stmt} {sts : List Stmt} {m n : SM}
def tX (K : PySem.W.Frag) (mg : Str → Option Value) (P0 : Pr) (O W : List Nat) (m : XM) (Ws : WX) : TE := fun σ H Q => ∃ ρ, Sim K P0 O W ρ σ H ∧
  Res E00 W σ H (m ρ) fun a => match a.1 with
    | .inl h => ∀ v H', Sim K P0 O W a.2 σ H' → Keep W σ H H' → HdR K P0 O H σ H' h v → Q v H'
    | .inr c => ∀ H', Sim K P0 O W a.2 σ H' → Keep W σ H H' → ∃ C, mg c = some (.ref C) ∧ Ws (.ref C) none σ H'
def tTb (K : PySem.W.Frag) (mg : Str → Option Value) (P0 : Pr) (O W U : List Nat) (m : TM) (Ws : WX) : TS := fun D σ H => ∃ ρ, Sim K P0 O W ρ σ H ∧
  Res E00 O σ H (m ρ) fun a => match a.1 with
    | .inl f => ∀ σ' H', Sim K P0 O W a.2 σ' H' → Tr O U σ H σ' H' → σ'.length = σ.length → Fin K P0 O H D σ' H' f
    | .inr c => ∀ σ' H', Sim K P0 O W a.2 σ' H' → Tr O U σ H σ' H' → σ'.length = σ.length → ∃ C, mg c = some (.ref C) ∧ Ws (.ref C) none σ' H'
/-- f(..) that may refuse -/
def cXcall (g : List D → R Hd) (m : AM) : XM := fun ρ => do
  let (hs, ρ1) ← m ρ
  let ds ← (vsOf hs).nox
  match g ds with
  | .ok (.ow _) => .stk
  | .ok h => pure (.inl h, ρ1)
  | .er c [] => pure (.inr c, ρ1)
  | _ => .stk
theorem tX_call {g : List D → R Hd} {Ws : WX} (hl : ALen ms np) (σ : St) (H : Hp) (Q : VK) (h : tX X.K X.mg P0 O W (cXcall g ms) Ws σ H Q) :
    tCallS (spD X.K X.mg np [] (pureF g)) (WE Ws) (tMs X.K P0 O W E00 ms) σ H Q := by
  obtain ⟨ρ, S, h⟩ := h
  refine ⟨ρ, S, ?_⟩
  cases em : ms ρ with
  | stk => unfold cXcall at h; rw [em] at h; exact h.elim
  | er c ds => unfold cXcall at h; rw [em] at h; exact h
  | ok p =>
    obtain ⟨hs, ρ1⟩ := p
    unfold cXcall at h
    rw [em] at h
    intro vs H1 S1 k1 r1
    obtain ⟨ds, e1, q⟩ := Res.of_nox (show Res E00 W σ H ((vsOf hs).nox >>= _) _ from h)
    have rr := HdRs.vs r1 e1
    have lv : vs.length = np := by rw [HdRs.len r1]; exact hl ρ hs ρ1 em
    refine ⟨lv, ds, FA P0 O σ, sim_args S1.dom rr, by rw [← rr.length]; exact lv, ?_⟩
    unfold pureF
    cases eg : g ds with
    | stk => rw [eg] at q; exact q.elim
    | er c xs =>
      rw [eg] at q
      cases xs with
      | cons x xs => exact q.elim
      | nil =>
        have q : ∀ H', Sim X.K P0 O W ρ1 σ H' → Keep W σ H H' → ∃ C, X.mg c = some (.ref C) ∧ Ws (.ref C) none σ H' := q
        exact fun H' kp => ⟨rfl, q H' (S1.same kp.nil) (k1.trans (Keep.same kp.nil))⟩
    | ok hd =>
      rw [eg] at q
      intro v H2 k2 _ r2
      have sm := Keep.nil k2
      cases hd with
      | ow j => exact q.elim
      | fr d =>
        have q : ∀ v H', Sim X.K P0 O W ρ1 σ H' → Keep W σ H H' → HdR X.K P0 O H σ H' (.fr d) v → Q v H' := q
        exact q v H2 (S1.same sm) (k1.trans (Keep.same sm)) ⟨r2.1.less (fun b z => (S1.same sm).dom b ((FA_nil b).mp z)) fun b z => .inl z, fun m a e => Classical.byContradiction fun z => k1.some a z (r2.2 m a e)⟩
      | vl d =>
        have q : ∀ v H', Sim X.K P0 O W ρ1 σ H' → Keep W σ H H' → HdR X.K P0 O H σ H' (.vl d) v → Q v H' := q
        exact q v H2 (S1.same sm) (k1.trans (Keep.same sm)) (Rep.less (fun b z => (S1.same sm).dom b ((FA_nil b).mp z)) r2 fun b z => .inl z)
theorem cx_call {g : List D → R Hd} {p : Pos} {Ws : WX} (G : Glo X.prog X.w X.K X.mg X.base name k np [] (pureF g)) (tk : L2N.Takes X Ws) (hr : Room k X.A) (ha : CA X P0 O W E00 (e :: es) ms) (hl : ALen ms np) (hg : Gl X name := by rfl) (hdb : (name == ("__debug__" : Str)) = false := by decide)
    (he : starEach (e :: es) X.env = (false, eval e X.env) :: starEach es X.env := by rfl) (hpl : (backTo pos (starEach es X.env)).any (·.1) = false := by rfl) : PE X (.Call (.Name name p) (e :: es) [] pos) (tX X.K X.mg P0 O W (cXcall g ms) Ws) := by
  obtain ⟨f, fd, ps, hm, hk, hb, _, F⟩ := G.ex
  exact PE.imp (pe_callS (E := WE Ws) F hr hg hm hk hb (fun σ => L2N.passAt tk σ) ha hdb he hpl) fun σ H Q h => tX_call hl σ H Q h
def tbRet (m : XM) : TM := fun ρ => do
  let (x, ρ1) ← m ρ
  match x with
  | .inl h => pure (.inl (.rt h), ρ1)
  | .inr c => pure (.inr c, ρ1)
theorem cb_ret {xm : XM} {Ws : WX} (h : PE X e (tX X.K X.mg P0 O W xm Ws)) : PS X (.Return (some e) pos) (tTb X.K X.mg P0 O W U (tbRet xm) Ws) := PS.imp (ps_ret h) fun D σ H ⟨ρ, S, h⟩ =>
  ⟨ρ, S, (h.of_bind.down S.sub).mono fun ⟨x, ρ1⟩ q => by
    cases x with
    | inl hd => exact fun v H1 S1 k1 r1 => q σ H1 S1 (Tr.of S.sub k1) rfl v r1
    | inr c => exact fun H1 S1 k1 => q σ H1 S1 (Tr.of S.sub k1) rfl⟩
def tbNil : TM := fun ρ => .ok (.inl .nx, ρ)
def tbIf (t : BM) (m n : TM) : TM := fun ρ => do
  let (k, ρ1) ← t ρ
  if k = true then m ρ1 else n ρ1
def tbSeq (m n : TM) : TM := fun ρ => do
  let (f, ρ1) ← m ρ
  match f with
  | .inl .nx => n ρ1
  | f => pure (f, ρ1)
theorem cb_nil {Ws : WX} : PSs X [] (tTb X.K X.mg P0 O W U tbNil Ws) := PSs.imp pss_nil fun D σ H ⟨ρ, S, h⟩ => h σ H S .refl rfl
theorem cb_one {Ws : WX} {m : TM} (h : PS X st (tTb X.K X.mg P0 O W U m Ws)) : PSs X [st] (tTb X.K X.mg P0 O W U m Ws) := pss_one h
theorem tTb_then {K : PySem.W.Frag} {mg : Str → Option Value} {Ws : WX} {m : TM} {D : Ends} {σ σ1 : St} {H H1 : Hp} {ρ1 : Env} (S1 : Sim K P0 O W ρ1 σ1 H1) (t1 : Tr O U σ H σ1 H1) (l1 : σ1.length = σ.length)
    (q : Res E00 O σ H (m ρ1) fun a => match a.1 with
    | .inl f => ∀ σ' H', Sim K P0 O W a.2 σ' H' → Tr O U σ H σ' H' → σ'.length = σ.length → Fin K P0 O H D σ' H' f
    | .inr c => ∀ σ' H', Sim K P0 O W a.2 σ' H' → Tr O U σ H σ' H' → σ'.length = σ.length → ∃ C, mg c = some (.ref C) ∧ Ws (.ref C) none σ' H') : tTb K mg P0 O W U m Ws D σ1 H1 :=
  ⟨ρ1, S1, (q.keepT t1).mono fun ⟨x, ρ2⟩ q2 => by
    cases x with
    | inl f =>
      intro σ2 H2 S2 t2 l2
      have q3 := q2 σ2 H2 S2 (t1.trans t2) (l2.trans l1)
      cases f with
      | nx => exact q3
      | bk => exact q3
      | ct => exact q3
      | rt hd => exact fun v r => q3 v (r.back t1.some)
    | inr c => exact fun σ2 H2 S2 t2 l2 => q2 σ2 H2 S2 (t1.trans t2) (l2.trans l1)⟩
theorem cb_cons {Ws : WX} {m n : TM} (h : PS X st (tTb X.K X.mg P0 O W U m Ws)) (h2 : PSs X sts (tTb X.K X.mg P0 O W U n Ws)) : PSs X (st :: sts) (tTb X.K X.mg P0 O W U (tbSeq m n) Ws) := PSs.imp (pss_cons h h2) fun D σ H ⟨ρ, S, h⟩ =>
  ⟨ρ, S, h.of_bind.mono fun ⟨f, ρ1⟩ q => by
    cases f with
    | inr c => exact q
    | inl f =>
      cases f with
      | nx => exact fun σ1 H1 S1 t1 l1 => tTb_then S1 t1 l1 q
      | bk => exact q
      | ct => exact q
      | rt hd => exact q⟩
theorem cb_if {Ws : WX} {t : BM} {m n : TM} {xs ys : List Stmt} (hc : CT X P0 O W E00 c t) (h1 : PSs X xs (tTb X.K X.mg P0 O W U m Ws)) (h2 : PSs X ys (tTb X.K X.mg P0 O W U n Ws)) : PS X (.If c xs ys pos) (tTb X.K X.mg P0 O W U (tbIf t m n) Ws) := PS.imp (ps_if hc h1 h2) fun D σ H ⟨ρ, S, h⟩ =>
  ⟨ρ, S, (h.of_bind.down S.sub).mono fun ⟨k, ρ1⟩ q H1 S1 k1 => by
    cases k with
    | true => exact (if_pos rfl).mpr (tTb_then S1 (Tr.of S.sub k1) rfl q)
    | false => exact (if_neg Bool.false_ne_true).mpr (tTb_then S1 (Tr.of S.sub k1) rfl q)⟩
/-- the error lies in slot i -/
def tZ (K : PySem.W.Frag) (P0 : Pr) (O W U : List Nat) (i : Nat) (a : Addr) (m : SM) : TS := fun D σ H => σ[i]? = some (some (.ref a)) ∧ tSt K P0 O W U E00 m D σ H
def tZe (K : PySem.W.Frag) (P0 : Pr) (O W : List Nat) (i : Nat) (a : Addr) (m : EM) : TE := fun σ H Q => σ[i]? = some (some (.ref a)) ∧ tM K P0 O W E00 m σ H Q
def tZa (K : PySem.W.Frag) (P0 : Pr) (O W : List Nat) (i : Nat) (a : Addr) (m : AM) : TA := fun σ H Q => σ[i]? = some (some (.ref a)) ∧ tMs K P0 O W E00 m σ H Q
variable {i : Nat} {ad : Addr}
theorem cz_of (h : CS X P0 O W U E00 st m) : PS X st (tZ X.K P0 O W U i ad m) := PS.imp h fun _ _ _ q => q.2
theorem cz_one (h : PS X st (tZ X.K P0 O W U i ad m)) : PSs X [st] (tZ X.K P0 O W U i ad m) := pss_one h
theorem cz_cons (h : PS X st (tZ X.K P0 O W U i ad m)) (h2 : PSs X sts (tZ X.K P0 O W U i ad n)) (hi : i ∈ U := by decide) : PSs X (st :: sts) (tZ X.K P0 O W U i ad (sSeq m n)) := PSs.imp (pss_cons h h2) fun D σ H ⟨e, ρ, S, h⟩ =>
  ⟨e, ρ, S, h.of_bind.mono fun ⟨f, ρ1⟩ q σ1 H1 S1 t1 l1 => by
    cases f with
    | nx =>
      refine ⟨by rw [t1.unch i hi]; exact e, ρ1, S1, (Res.keepT (show Res E00 O σ H (n ρ1) _ from q) t1).mono fun ⟨f2, ρ2⟩ q2 σ2 H2 S2 t2 l2 => ?_⟩
      have q3 := q2 σ2 H2 S2 (t1.trans t2) (l2.trans l1)
      cases f2 with
      | nx => exact q3
      | bk => exact q3
      | ct => exact q3
      | rt hd => exact fun v r => q3 v (r.back t1.some)
    | bk => exact q σ1 H1 S1 t1 l1
    | ct => exact q σ1 H1 S1 t1 l1
    | rt hd => exact q σ1 H1 S1 t1 l1⟩
/-- isinstance(e, x) -/
theorem cz_isi {C : Addr} {oe : Obj} {cn x nm : Str} {f : Str → Bool} {cl : List Str} {p q q2 : Pos} (Z : ErrZ X.K X.mg cn) (F : IsF X.K X.mg cl x f) (hc : cn ∈ cl) (hC : X.mg cn = some (.ref C)) (hz : Zc (.ref C) none oe) (hf : ∃ vs, oe.data = .fields vs) (hp : (ad, oe) ∈ X.pn) (hm : X.mg "isinstance" = none)
    (hN : X.N[i]? = some nm := by rfl) (hv : Vis X.env.scope nm := by first | exact Or.inl rfl | exact Or.inr (Or.inl rfl)) (hd : (nm == ("__debug__" : Str)) = false := by decide) (hcd : (nm == ("__classdict__" : Str)) = false := by decide)
    (hg : Gl X "isinstance" := by rfl) (hg2 : Gl X x := by rfl) (hdb : (x == ("__debug__" : Str)) = false := by decide)
    (he : starEach [.Name nm q, .Name x q2] X.env = (false, eval (.Name nm q) X.env) :: starEach [.Name x q2] X.env := by rfl) (hpl : (backTo pos (starEach [.Name x q2] X.env)).any (·.1) = false := by rfl) (he2 : starEach [.Name x q2] X.env = (false, eval (.Name x q2) X.env) :: starEach [] X.env := by rfl) :
    PE X (.Call (.Name "isinstance" p) [.Name nm q, .Name x q2] [] pos) (tZe X.K P0 O W i ad (cC (.bl (f cn)))) := by
  obtain ⟨C', hC', Zc'⟩ := Z.ex
  rw [hC] at hC'
  cases hC'
  obtain ⟨u, hu, hk⟩ := F.ex
  refine PE.imp (pe_callB (call_isP Zc' hz hf hp) hg hm bo_isinstance (pa_cons (pe_var (i := i) hN hv hd hcd) (pa_cons (pe_glob (v := .ref u) hg2 hu rfl hdb) pa_nil he2) he) (by decide) (by decide) he hpl) fun σ H Q ⟨e, ρ, S, q⟩ => ?_
  obtain ⟨C2, hC2, hk⟩ := hk cn hc
  rw [hC] at hC2
  cases hC2
  exact ⟨.ref ad, e, .ref u, .ref u, f cn, rfl, fun _ z => z, hk, q (.bl (f cn)) H S .refl ⟨by unfold Rep; rfl, fun z => by cases z⟩⟩
theorem cz_asg {tm : GM} {is : List Nat} (h : PE X e (tZe X.K P0 O W i ad ma)) (hg : CG X P0 O W tg tm is) (ho : ∀ i ∈ is, i ∉ O := by decide) (hu : ∀ i ∈ is, i ∉ U := by decide) (hs : swapsWithSole [tg] e pos.line X.env = pure false := by rfl) (hw : swappedStores [tg] e X.env = pure none := by rfl) (h1 : (assignEach [tg] X.env).map (·.2) = [assign tg X.env] := by rfl) : PS X (.Assign [tg] e pos) (tZ X.K P0 O W U i ad (sAsg ma tm)) :=
  PS.imp (ps_asg h hg hs hw h1) fun D σ H ⟨e, ρ, S, h⟩ => by
    refine ⟨e, ρ, S, (h.of_bind.down S.sub).mono fun ⟨hd, ρ1⟩ q v H1 S1 k1 r1 => ?_⟩
    obtain ⟨d, e1, q⟩ := q.of_nox
    obtain ⟨ρ2, e2, q⟩ := q.of_nox
    exact ⟨ρ1, d, ρ2, S1, r1.v e1, e2, fun σ' S' l h' => q σ' H1 S' ((Tr.of S.sub k1).trans ⟨fun _ _ e _ => e, fun _ e => e, fun b z => .inl ((OA_of (fun i hi => h' i fun y => ho i y hi) b).mp z), fun j hj => h' j fun y => hu j y hj⟩) l⟩
theorem cz_ret (h : PE X e (tZe X.K P0 O W i ad ma)) : PS X (.Return (some e) pos) (tZ X.K P0 O W U i ad (sRet ma)) := PS.imp (ps_ret h) fun D σ H ⟨e, ρ, S, h⟩ =>
  ⟨e, ρ, S, (h.of_bind.down S.sub).mono fun ⟨hd, ρ1⟩ q v H1 S1 k1 r1 => q σ H1 S1 (Tr.of S.sub k1) rfl v r1⟩
/-- in a suite a slot is set -/
theorem cs_asgU {tm : GM} {is : List Nat} (h : CEx X P0 O W E e ma) (hg : CG X P0 O W tg tm is) (ho : ∀ i ∈ is, i ∉ O := by decide) (hu : ∀ i ∈ is, i ∉ U := by decide) (hs : swapsWithSole [tg] e pos.line X.env = pure false := by rfl) (hw : swappedStores [tg] e X.env = pure none := by rfl) (h1 : (assignEach [tg] X.env).map (·.2) = [assign tg X.env] := by rfl) : CS X P0 O W U E (.Assign [tg] e pos) (sAsg ma tm) :=
  PS.imp (ps_asg h hg hs hw h1) fun D σ H ⟨ρ, S, h⟩ => by
    refine ⟨ρ, S, (h.of_bind.down S.sub).mono fun ⟨hd, ρ1⟩ q v H1 S1 k1 r1 => ?_⟩
    obtain ⟨d, e1, q⟩ := q.of_nox
    obtain ⟨ρ2, e2, q⟩ := q.of_nox
    exact ⟨ρ1, d, ρ2, S1, r1.v e1, e2, fun σ' S' l h' => q σ' H1 S' ((Tr.of S.sub k1).trans ⟨fun _ _ e _ => e, fun _ e => e, fun b z => .inl ((OA_of (fun i hi => h' i fun y => ho i y hi) b).mp z), fun j hj => h' j fun y => hu j y hj⟩) l⟩
end
section
variable {K : PySem.W.Frag} {P0 : Pr} {O W U : List Nat} {ρ : Env} {σ : St} {H : Hp}
theorem Sim.unset (S : Sim K P0 O W ρ σ H) {i : Nat} (hi : i ∉ O) (x : Option V) : Sim K P0 O W (ρ.set i none) (σ.set i x) H := by
  have no : ∀ {j : Nat} {d : D}, (ρ.set i none)[j]? = some (some d) → i ≠ j ∧ ρ[j]? = some (some d) := fun {j d} e => by
    by_cases hj : i = j
    · subst hj
      have h1 : i < ρ.length := by have := (List.getElem?_eq_some_iff.mp e).1; simpa using this
      rw [List.getElem?_set_self h1] at e; cases e
    · rw [List.getElem?_set_ne hj] at e; exact ⟨hj, e⟩
  refine S.move (by simpa using S.len) (fun j hj => ?_) (fun j hj d' e => (no e).2) fun j d' e n => ?_
  · exact List.getElem?_set_ne (fun (e : i = j) => hi (by rw [e]; exact hj))
  · obtain ⟨h1, h2⟩ := no e
    rw [List.getElem?_set_ne h1]
    exact S.val j d' h2 n
theorem Tr.unset {i : Nat} {x : Option V} (hi : i ∉ O) (hu : i ∉ U) : Tr O U σ H (σ.set i x) H :=
  ⟨fun _ _ e _ => e, fun _ e => e, fun b ⟨j, hj, z⟩ => .inl ⟨j, hj, by rwa [List.getElem?_set_ne fun (y : i = j) => hi (y ▸ hj)] at z⟩, fun j hj => List.getElem?_set_ne fun (y : i = j) => hu (y ▸ hj)⟩
theorem Tr.fewer {U' : List Nat} {σ' : St} {H' : Hp} (t : Tr O U σ H σ' H') (h : ∀ i ∈ U', i ∈ U) : Tr O U' σ H σ' H' := ⟨t.keep, t.some, t.own, fun i hi => t.unch i (h i hi)⟩
end
section
variable {X : Cx} {P0 : Pr} {O W U : List Nat} {E : EK}
theorem PSs.exi {sts : List Stmt} {α : Type} {p : α → Prop} {t : α → TS} (h : ∀ a, p a → PSs X sts (t a)) : PSs X sts (fun D σ H => ∃ a, p a ∧ t a D σ H) := ⟨fun pins s σ H D I ⟨a, pa, q⟩ => (h a pa).run pins s σ H D I q⟩
/-- try: body; except x as n: suite -/
theorem cs_try {tm : TM} {h : Str → SM} {i : Nat} {cl : List Str} {x n : Str} {body suite : List Stmt} {b₀ : Stmt} {np pos pos' : Pos} (hN : X.N.Nodup) (hcat : CatF X.K X.mg cl x) (hi : X.N[i]? = some n)
    (hb : ∀ (Ws : WX) (pn : List (Addr × Obj)) (xe : Value → Shared → Prop), L2N.Takes (X.tr pn xe) Ws → PSs (X.tr pn xe) body (tTb X.K X.mg P0 O W U tm Ws))
    (hsu : ∀ (a : Addr) (oe : Obj) (C : Addr) (cn : Str) (pn : List (Addr × Obj)), X.mg cn = some (.ref C) → cn ∈ cl → L2N.Zn (.ref C) none oe → (∃ vs, oe.data = .fields vs) → PSs (X.suite a ((a, oe) :: pn)) (b₀ :: suite) (tZ X.K P0 O W (i :: U) i a (h cn)))
    (hio : i ∉ O := by decide) (hiu : i ∉ U := by decide) (hs : X.stack = X.env :: X.outer := by rfl) (hf : X.env.frame = some X.env.locals := by rfl) (hln : X.env.kindOf n = some .local := by rfl) (hg : Gl X x := by rfl) (hdb : (x == ("__debug__" : Str)) = false := by decide) (tk : L2N.Takes X fun _ _ _ _ => False := by exact fun _ _ z => by rcases z with ⟨_, _, _, _, _, _, _, _, _, _, _, _, _, _, _, _, y⟩; exact y.elim) :
    CS X P0 O W U E (.Try body [.ExceptHandler (some (.Name x np)) (some n) (b₀ :: suite) pos'] [] [] pos) (sTry i cl tm h) := by
  obtain ⟨u, hu, hk⟩ := hcat.ex
  refine PS.imp (L2N.ps_try_as (i := i) (c := .ref u) (Wout := fun _ _ _ _ => False) (ts := fun a cls d D σ H => ∃ q : Addr × Str, (cls = .ref q.1 ∧ d = none ∧ X.mg q.2 = some (.ref q.1) ∧ q.2 ∈ cl) ∧ tZ X.K P0 O W (i :: U) i a (h q.2) D σ H) hs hf hN hi hln ⟨hg, hdb, .inl hu⟩ tk (fun Ws pn xe t _ => hb Ws pn xe t) (fun a oe cls d pn hz hfl => PSs.exi fun q hq => ?_)) fun D σ H ⟨ρ, S, r⟩ => ?_
  · obtain ⟨rfl, rfl, h1, h2⟩ := hq
    exact hsu a oe q.1 q.2 pn h1 h2 hz hfl
  · obtain ⟨⟨y, ρ1⟩, em, r⟩ := Res.of_nox r
    refine ⟨ρ, S, ?_⟩
    rw [em]
    cases y with
    | inl f => exact r
    | inr c =>
      have r : Res E O σ H (if c ∈ cl ∧ i < ρ1.length then (do
        let (f, ρ2) ← (h c (ρ1.set i none)).nox
        pure (f, ρ2.set i none)) else .stk) _ := r
      by_cases hc : c ∈ cl ∧ i < ρ1.length
      · rw [if_pos hc] at r
        intro σ1 H1 S1 t1 l1
        obtain ⟨C, hC, hm⟩ := hk c hc.1
        refine ⟨C, hC, true, hm, fun _ a na => ⟨(C, c), ⟨rfl, rfl, hC, hc.1⟩, List.getElem?_set_self (Nat.lt_of_lt_of_le hc.2 S1.len), ρ1.set i none, S1.unset hio _, ?_⟩, fun z => Bool.noConfusion z⟩
        obtain ⟨⟨f, ρ2⟩, eh, r0⟩ := Res.of_nox r
        · rw [eh]
          intro σ2 H2 S2 t2 l2
          have t3 : Tr O U σ H σ2 H2 := t1.trans ((Tr.unset hio hiu).trans (t2.fewer fun j hj => List.mem_cons_of_mem _ hj))
          have l3 : σ2.length = σ.length := by rw [l2, List.length_set, l1]
          have q := r0 (σ2.set i none) H2 (S2.unset hio none) (t3.trans (Tr.unset hio hiu)) (by rw [List.length_set, l3])
          have tt : Tr O (i :: U) σ1 H1 σ1 H1 := .refl
          cases f with
          | nx => exact q
          | bk => exact q
          | ct => exact q
          | rt hd => 
            intro v r
            refine q v ?_
            have r := r.back (Hs' := H) t1.some
            have fa : ∀ b, FA P0 O (σ2.set i none) b → FA P0 O σ2 b := fun b z => z.imp id fun ⟨j, hj, e⟩ => ⟨j, hj, by rwa [List.getElem?_set_ne fun (y : i = j) => hio (y ▸ hj)] at e⟩
            cases hd with
            | fr d => exact ⟨r.1.less S2.dom fa, r.2⟩
            | vl d => exact Rep.less S2.dom r fa
            | ow j => exact ⟨r.1, by rw [List.getElem?_set_ne fun (y : i = j) => hio (y ▸ r.1)]; exact r.2⟩
      · rw [if_neg hc] at r; exact r.elim
end
end Y

set_option Elab.async false
set_option linter.all false
set_option maxRecDepth 100000
namespace Y
open PySem PySem.Spec PyProof.Rows L2
/-- x stands for all refusals, or is the class -/
def isErr (x c : Str) : Bool := x == c || x == "NetError"
theorem all_nil {α : Type} {p : α → Prop} : ∀ c ∈ ([] : List α), p c := fun _ h => nomatch h
theorem all_cons {α : Type} {p : α → Prop} {c : α} {cl : List α} (h : p c) (t : ∀ c ∈ cl, p c) : ∀ x ∈ c :: cl, p x := List.forall_mem_cons.mpr ⟨h, t⟩
theorem isi_of {o : Option Bool} {b x : Bool} (h : o = some b) (e : b = x := by decide +kernel) : o = some x := e ▸ h
theorem kit_own {K : PySem.W.Frag} {C X : Addr} {b : Bool} (hs : PySem.W.subIn K (.ref C) (.ref C) = some true) (hd : PySem.W.hasDictIn K X = true) (ht : PySem.W.typeIn K (.ref X) = some (.type "type")) (h : PySem.W.subIn K (.ref C) (.ref X) = some b) : PySem.W.kitOne K (.ref C) (.ref X) = some b := by
  unfold PySem.W.kitOne
  by_cases e : C = X
  · subst e
    rw [hs] at h
    cases h
    rw [if_pos (by simp)]
  · rw [if_neg (by simpa using e)]
    obtain ⟨cd, hc, _⟩ := PySem.W.any_some hd
    show (if ((PySem.W.clsIn K X).isSome && PySem.W.typeIn K (.ref X) == some (.type "type")) = true then PySem.W.subIn K (.ref C) (.ref X) else none) = some b
    rw [hc, ht, if_pos (by simp)]
    exact h
variable {ρ : Y.Env}
@[simp] theorem e_try {i : Nat} {es : List Str} {m : TM} {h : Str → SM} : sTry i es m h ρ = ((m ρ).nox >>= fun p => match p.1 with | .inl f => R.ok (f, p.2) | .inr c => if c ∈ es ∧ i < p.2.length then ((h c (p.2.set i none)).nox >>= fun q => R.ok (q.1, q.2.set i none)) else .stk) := by
  unfold sTry; congr
@[simp] theorem e_xcall {g : List D → R Hd} {m : AM} : cXcall g m ρ = (m ρ >>= fun p => (vsOf p.1).nox >>= fun ds => match g ds with | .ok (.ow _) => .stk | .ok h => R.ok (.inl h, p.2) | .er c [] => R.ok (.inr c, p.2) | _ => .stk) := id rfl
@[simp] theorem e_tbret {m : XM} : tbRet m ρ = (m ρ >>= fun p => match p.1 with | .inl h => R.ok (.inl (.rt h), p.2) | .inr c => R.ok (.inr c, p.2)) := id rfl
@[simp] theorem e_tbnil : tbNil ρ = .ok (.inl .nx, ρ) := id rfl
@[simp] theorem e_tbif {t : BM} {m n : TM} : tbIf t m n ρ = (t ρ >>= fun p => if p.1 = true then m p.2 else n p.2) := id rfl
@[simp] theorem e_tbseq {m n : TM} : tbSeq m n ρ = (m ρ >>= fun p => match p.1 with | .inl .nx => n p.2 | f => R.ok (f, p.2)) := by
  unfold tbSeq; congr
end Y

set_option Elab.async false
set_option linter.all false
set_option maxRecDepth 100000
namespace Y
open PySem PySem.Spec PyProof.Rows L2
def DicU : HO → Prop
  | .dK _ => True
  | .dT _ => True
  | _ => False
theorem Rd.only {H : Hp} {a b : Addr} {u o : HO} (hu : DicU u) (r : Rd H a u) (e : H b = Option.some o) (n1 : ¬ DicU o) (n2 : ∀ x w, o = .frz x w → ¬ DicU w) : b ≠ a := by
  rintro rfl
  rcases r with r | ⟨x, r⟩
  · rw [e] at r; cases r; exact n1 hu
  · rw [e] at r; cases r; exact n2 _ _ rfl hu
section
variable {K : PySem.W.Frag} {H H' : Hp} {a : Addr} {u : HO}
theorem Rd.move (hu : DicU u) (k : ∀ b, b ≠ a → H' b = H b) (r : Rd H a u) (r' : Rd H' a u) {b : Addr} {o : HO} (n2 : ∀ x w, o ≠ .frz x w) (h : Rd H b o) : Rd H' b o := by
  by_cases e : b = a
  · subst e
    have : o = u := by
      rcases r with r | ⟨x, r⟩ <;> rcases h with h | ⟨y, h⟩ <;> rw [r] at h <;> cases h <;> first | rfl | exact absurd rfl (n2 _ _) | exact hu.elim
    rw [this]; exact r'
  · rcases h with h | ⟨y, h⟩
    · exact .inl (by rw [k b e]; exact h)
    · exact .inr ⟨y, by rw [k b e]; exact h⟩
theorem TabS.rd (hu : DicU u) (k : ∀ b, b ≠ a → H' b = H b) (r : Rd H a u) {p b : Addr} {q : Str} (t : TabP H p q b) : TabP H' p q b := by
  obtain ⟨e, ps, h1, h2, h3⟩ := t
  refine ⟨e, ps, ?_, h2, fun pos cv hc => ?_⟩
  · rw [k b (Rd.only hu r h1 (fun z => z) fun x w z => by cases z)]
    exact h1
  · obtain ⟨c, e1, e2⟩ := h3 pos cv hc
    refine ⟨c, e1, ?_⟩
    rw [k c (Rd.only hu r e2 (fun z => z) fun x w z => by unfold LamX.CodeO at z; cases z)]
    exact e2
mutual
theorem Rep.rd (hu : DicU u) (k : ∀ b, b ≠ a → H' b = H b) (r : Rd H a u) (r' : Rd H' a u) : ∀ {d : D} {P : Pr} {v : V}, Rep K H d P v → Rep K H' d P v
  | .non, _, _, h => by unfold Rep at h ⊢; exact h
  | .bl _, _, _, h => by unfold Rep at h ⊢; exact h
  | .int _, _, _, h => by unfold Rep at h ⊢; exact h
  | .str _, _, _, h => by unfold Rep at h ⊢; exact h
  | .tup ds, P, v, h => by
    unfold Rep at h ⊢
    obtain ⟨b, vs, e, h1, h2⟩ := h
    exact ⟨b, vs, e, by rw [k b (Rd.only hu r h1 id fun _ _ z => by cases z)]; exact h1, Reps.rd hu k r r' h2⟩
  | .lst ds, P, v, h => by
    unfold Rep at h ⊢
    obtain ⟨b, vs, e, h0, h1, h2⟩ := h
    exact ⟨b, vs, e, h0, by rw [k b (Rd.only hu r h1 id fun _ _ z => by cases z)]; exact h1, Reps.rd hu k r r' h2⟩
  | .arg ns, P, v, h => by
    unfold Rep at h ⊢
    obtain ⟨b, e, h⟩ := h
    refine ⟨b, e, ?_⟩
    rcases h with ⟨h0, h1⟩ | h
    · exact .inl ⟨h0, Rd.move hu k r r' (fun _ _ z => by cases z) h1⟩
    · exact .inr h
  | .dik ks ds, P, v, h => by
    unfold Rep at h ⊢
    obtain ⟨b, vs, e, h0, hl, h1, h2⟩ := h
    exact ⟨b, vs, e, h0, hl, Rd.move hu k r r' (fun _ _ z => by cases z) h1, Reps.rd hu k r r' h2⟩
  | .dit ks ds, P, v, h => by
    unfold Rep at h ⊢
    obtain ⟨b, vs, e, h0, hl, h1, h2⟩ := h
    exact ⟨b, vs, e, h0, hl, Rd.move hu k r r' (fun _ _ z => by cases z) h1, Reps.rd hu k r r' h2⟩
  | .ftu ds, P, v, h => by
    unfold Rep at h ⊢
    obtain ⟨b, vs, o, e, h1, hd, h2⟩ := h
    have nb : b ≠ a := fun z => by
      subst z
      rcases r with r | ⟨x, r⟩ <;> rw [r] at h1 <;> cases h1 <;> exact hu.elim
    exact ⟨b, vs, o, e, by rw [k b nb]; exact h1, hd, Reps.rd hu k r r' h2⟩
  | .tab p q, P, v, h => by
    unfold Rep at h ⊢
    obtain ⟨b, e, h0, h1⟩ := h
    exact ⟨b, e, h0, TabS.rd hu k r h1⟩
theorem Reps.rd (hu : DicU u) (k : ∀ b, b ≠ a → H' b = H b) (r : Rd H a u) (r' : Rd H' a u) : ∀ {ds : List D} {P : Pr} {vs : List V}, Reps K H ds P vs → Reps K H' ds P vs
  | [], _, _, h => by rw [h.nil_iff]; exact Reps.nil
  | d :: ds, P, vs, h => by
    obtain ⟨v, ws, rfl, h1, h2⟩ := h.cons_iff
    exact Reps.cons (Rep.rd hu k r r' h1) (Reps.rd hu k r r' h2)
end
variable {P0 : Pr} {O W U : List Nat} {ρ : Y.Env} {σ : L2.St}
theorem Sim.rd (S : Sim K P0 O W ρ σ H) (hu : DicU u) (k : ∀ b, b ≠ a → H' b = H b) (r : Rd H a u) (r' : Rd H' a u) (n : ¬ FA P0 O σ a) : Sim K P0 O W ρ σ H' where
  sub := S.sub
  len := S.len
  dom := fun b z => by rw [k b fun e => n (e ▸ z)]; exact S.dom b z
  val := fun i d e h => let ⟨v, h1, h2⟩ := S.val i d e h; ⟨v, h1, h2.rd hu k r r'⟩
  own := fun i d e h => by
    obtain ⟨v, h1, h2⟩ := S.own i d e h
    have na : ∀ b, v = .ref b → b ≠ a := fun b e z => n (.inr ⟨i, h, by rw [h1, e, z]⟩)
    refine ⟨v, h1, ?_⟩
    cases d with
    | lst ds => obtain ⟨b, vs, e, g1, g2⟩ := h2; exact ⟨b, vs, e, by rw [k b (na b e)]; exact g1, g2.rd hu k r r'⟩
    | dik ks ds => obtain ⟨b, vs, e, hl, g1, g2⟩ := h2; exact ⟨b, vs, e, hl, by rw [k b (na b e)]; exact g1, g2.rd hu k r r'⟩
    | dit ks ds => obtain ⟨b, vs, e, hl, g1, g2⟩ := h2; exact ⟨b, vs, e, hl, by rw [k b (na b e)]; exact g1, g2.rd hu k r r'⟩
    | non => exact h2
    | bl _ => exact h2
    | int _ => exact h2
    | str _ => exact h2
    | tup _ => exact h2
    | arg _ => exact h2
    | ftu _ => exact h2
    | tab p q => obtain ⟨b, e, g1⟩ := h2; exact ⟨b, e, TabS.rd hu k r g1⟩
  sep := S.sep
  sep0 := S.sep0
end
def ItiT (d : Addr) (o : Obj) (kvs : List (List Key × V)) : It :=
  ⟨fun i H => H d = some (.frz o (.dT kvs)) ∧ i < kvs.length, fun i H x H' => ∃ T q k v, kvs[i]? = some (k, v) ∧ H q = some (.tup (k.map kV)) ∧ x = .ref T ∧ H T = none ∧ H' = upd H T (.tup [.ref q, v]), fun i H => H d = some (.frz o (.dT kvs)) ∧ kvs.length ≤ i⟩
theorem frzV {X : Cx} {pins : List (Addr × Obj)} {σ : L2.St} {H : Hp} {s : Shared} {d : Addr} {o : Obj} {kvs : List (List Key × V)} (I : Inv X pins σ H s) (h : H d = some (.frz o (.dT kvs))) :
    (d == sysModules) = false ∧ ∃ (es : Array DictEntry) (ep : Nat), s.heap.DictRaw d es ep ∧ o.data = .dict es ep ∧ es.size = kvs.length ∧
      ∀ (i : Nat) (hi : i < es.size) (k : List Key) (v : V), kvs[i]? = some (k, v) → ∃ q, es[i].key = .ref q ∧ H q = some (.tup (k.map kV)) ∧ RelV v es[i].val := by
  have t := I.hok d _ h
  rcases t with ⟨e0, -, hs, xs, pr, o', es, ep, e1, ex, dt, ent, -⟩
  have eo : o' = o := Option.some.inj (e1.symm.trans e0)
  subst eo
  have l1 : es.size = xs.length := by have := congrArg List.length ent; simpa using this
  refine ⟨hs, es, ep, ⟨o', e0, ex, dt⟩, dt, l1.trans (Paired.length pr).symm, fun i hi k v e => ?_⟩
  obtain ⟨b, eb, c1, c2, c3⟩ := paired_get pr e
  have c := congrArg (fun l => l[i]?) ent
  simp only [List.getElem?_map, eb, Option.map_some] at c
  have c4 : es[i] = entryOfKey (tupleKind (mixKind X.prog X.w)) b := by
    have c5 : es.toList[i]? = some es[i] := by rw [Array.getElem?_toList, Array.getElem?_eq_getElem hi]
    rw [c5] at c
    exact Option.some.inj c
  refine ⟨b.2.1, by rw [c4]; rfl, c2, by rw [c4]; exact c3⟩
section
variable {P : Program} {w : World} {K : PySem.W.Frag} {d : Addr} {o : Obj} {es : Array DictEntry} {ep : Nat}
theorem turn_itemsT {kvs : List (List Key × V)} {elts : List Expr} {kk : Nat} {tpos : Pos} (it : Addr) (hod : o.data = .dict es ep) :
    Turn P w K (.Tuple elts kk tpos) (ItiT d o kvs) [it] it (fun i h => ∃ ok ov, IsItemIter h it d i kvs.length ep ok ov) where
  mem := List.mem_singleton.mpr rfl
  obj := fun i h ⟨ok, ov, e⟩ b hb => by
    cases List.mem_singleton.mp hb
    exact ⟨_, e, fun v z => nomatch z⟩
  keep := fun i h h' ⟨ok, ov, e⟩ k => ⟨ok, ov, k it (List.mem_singleton.mpr rfl) _ e⟩
  item := by
    intro X hP hw hK hc i pins s σ H E I hf ⟨ok, ov, st⟩ ⟨hd, hi⟩
    subst hP; subst hw; subst hK
    obtain ⟨_, es', ep', raw, hdt, hsz, ent⟩ := frzV I hd
    obtain ⟨rfl, rfl⟩ := dict_ep hod hdt
    have hi2 : i < es'.size := by rw [hsz]; exact hi
    obtain ⟨q, k1, k2, k3⟩ := ent i hi2 kvs[i].1 kvs[i].2 (List.getElem?_eq_getElem hi)
    rw [← hsz] at st
    have lt : it < s.heap.objs.size := Heap.lt_size st
    refine wpAny_pyNext_items_item_raw st raw hi2 fun h1 out tup _ old => ⟨_, rfl, wpAny_letOwnedTupleGo_items (s := { s with heap := h1 }) out fun h2 st2 same => ?_⟩
    have tup2 : h2.get? s.heap.objs.size = some { cls := .type "tuple", data := .seq #[es'[i].key, es'[i].val] } := (same.2 _ (Nat.ne_of_gt lt)).trans tup
    have ok2 : ObjOk X.prog X.w (upd H s.heap.objs.size (.tup [.ref q, kvs[i].2])) h2 s.heap.objs.size (.tup [.ref q, kvs[i].2]) :=
      ⟨by show 2 ≤ sizeLine; decide, [es'[i].key, es'[i].val], .cons k1 (.cons k3 .nil), ⟨_, tup2, rfl, _, rfl⟩⟩
    have J := I.turnedNew (t' := s.toks) (ch := [it]) (fun b ob hb e => (same.2 b (by simpa using hb)).trans (old b ob (by simpa using hb) e)) hf (Nat.le_refl _) ok2
    refine ⟨.ref s.heap.objs.size, _, J, rfl, ⟨_, q, _, _, List.getElem?_eq_getElem hi, k2, rfl, I.hok.fresh (Nat.le_refl _), rfl⟩, ⟨es'[i].key, es'[i].val, by rw [← hsz]; exact st2⟩, fun b hb => ?_⟩
    cases List.mem_singleton.mp hb
    rw [upd_ne (Nat.ne_of_lt lt)]
    exact (hf it hb).1
  done := by
    intro X hP hw hK hc i pins s σ H E I hf ⟨ok, ov, st⟩ ⟨hd, hi⟩
    subst hP; subst hw; subst hK
    obtain ⟨_, es', ep', raw, hdt, hsz, ent⟩ := frzV I hd
    obtain ⟨rfl, rfl⟩ := dict_ep hod hdt
    obtain ⟨g0, g1, g2, g3, g4, g5⟩ := hf it (List.mem_singleton.mpr rfl)
    rw [← hsz] at st
    exact wpAny_pyNext_items_end_raw (I.ok.hd hc) st raw (by rw [hsz]; exact hi) fun h1 eb => ⟨rfl, I.turned (t' := s.toks) (fun b ob hb e => eb b ob hb e) g0 g1 g3 g4 g5⟩
  self := fun A i s Q E ⟨_, _, e⟩ h => PySem.W.kcp_self e h
end
def iItemsT (td : TE) : TI := fun σ H R => td σ H fun x H1 => ∃ d o kvs, x = .ref d ∧ H1 d = some (.frz o (.dT kvs)) ∧ R (ItiT d o kvs) H1
theorem pi_itemsT {X : Cx} {e : Expr} {td : TE} {apos cpos : Pos} {elts : List Expr} {kk : Nat} {tpos : Pos} (he : PE X e td) (hbase : attributeBase e "items" X.env (eval e X.env) = eval e X.env := by rfl) (hline : (apos.endLine == cpos.line) = true := by rfl) :
    PI X (.Tuple elts kk tpos) (.Call (.Attribute e "items" apos) [] [] cpos) (iItemsT td) := by
  refine ⟨fun pins s σ H R I h => wpAny_Call_method (T := "dict") (id := "dict.items") hbase rfl hline F.plainAttrs_dict F.slot_dict_items F.type_dict_items (thn (he.run pins s σ H _ I h) fun u s1 ⟨x, H1, I1, rx, d, o, kvs, ex, hd, q⟩ => ?_)⟩
  cases ex
  cases (show u = Value.ref d from rx)
  obtain ⟨hs, es, ep, raw, hdt, hsz, ent⟩ := frzV I1 hd
  obtain ⟨o1, g1, g2, g3⟩ := id raw
  refine ⟨raw.typeIs, ?_, ?_⟩
  · intro b e
    cases e
    exact ⟨o1, g1, g2.2.1⟩
  · have I2 : Inv X pins σ H1 { s1 with heap := s1.heap.push { cls := .type "dict_items", data := .fields #[.ref d] } } := I1.kept (t' := s1.toks) fun b ob q => Heap.get?_push_of_some _ q
    have fin : wpAny (model X.prog X.w) X.A (pyIter (.ref s1.heap.objs.size)) (PIE X pins σ (.Tuple elts kk tpos) R) X.xe { s1 with heap := s1.heap.push { cls := .type "dict_items", data := .fields #[.ref d] } } :=
      wpAny_pyIter_items_raw (d := d) ⟨_, Heap.get?_push_size _ rfl, rfl, rfl⟩ (raw.at fun _ e => Heap.get?_push_of_some _ e) (pi_one (tk := s1.toks) I2 _ (turn_itemsT _ hdt) ⟨.none, .none, by rw [← hsz]; exact Heap.get?_push_size _ rfl⟩ q)
    show wpAny _ _ (callWith cpos (.builtin "dict.items") [.ref d] [] []) _ X.xe s1
    exact method_meetsIn F.slot_dict_items F.entry_dict_items rfl (PySem.evalArgs_none ⟨rfl, raw.typeIs, F.args_dict_items_1 _, _, meets_dict_items_raw d hs, ⟨es, ep, raw⟩, fin⟩)

def keyD : Key → D
  | .inl i => .int i
  | .inr x => .str x
def dicItems : D → R (List D)
  | .dik ks ds => .ok ((ks.zip ds).map fun p => .tup [keyD p.1, p.2])
  | .dit ks ds => .ok ((ks.zip ds).map fun p => .tup [.tup (p.1.map keyD), p.2])
  | _ => .stk
def cItems (i : Nat) : IM := fun ρ => do
  let d ← (look i ρ).nox
  let ds ← (dicItems d).nox
  if szOk ds.length = true then pure ((ds, []), ρ) else .stk
theorem rep_key {K : PySem.W.Frag} {H : Hp} {P : Pr} (k : Key) : Rep K H (keyD k) P (kV k) := by
  cases k <;> (show Rep K H _ P _; unfold keyD Rep; rfl)
theorem reps_keys {K : PySem.W.Frag} {H : Hp} {P : Pr} : ∀ k : List Key, Reps K H (k.map keyD) P (k.map kV)
  | [] => Reps.nil
  | k :: ks => Reps.cons (rep_key k) (reps_keys ks)
section
variable {K : PySem.W.Frag} {O W : List Nat} {a : Addr} {o : Obj} {ds : List D} {vs : List V}
theorem zip_at {α β : Type} {ks : List α} {ds : List β} {i : Nat} {p : α × β} (h : (ks.zip ds)[i]? = some p) : ks[i]? = some p.1 ∧ ds[i]? = some p.2 := by
  obtain ⟨k, d⟩ := p
  exact List.getElem?_zip_eq_some.mp h
theorem src_items {κ : Type} {ks : List κ} {J : It} {f : κ → D} {mk : List (κ × V) → HO} (hJ1 : ∀ i H, H a = some (.frz o (mk (ks.zip vs))) → i < (ks.zip vs).length → J.go i H) (hJ2 : ∀ i H, H a = some (.frz o (mk (ks.zip vs))) → (ks.zip vs).length ≤ i → J.stop i H)
    (hJ3 : ∀ i H x H', J.yld i H x H' → ∃ T k v kv, (ks.zip vs)[i]? = some (k, v) ∧ (∀ P, Rep K H (f k) P kv) ∧ x = .ref T ∧ H T = none ∧ H' = upd H T (.tup [kv, v])) (hl : ks.length = vs.length) (hd : vs.length = ds.length) :
    Src K O W ((ks.zip ds).map fun p => .tup [f p.1, p.2]) [] J (fun P0 _ σ H => H a = some (.frz o (mk (ks.zip vs))) ∧ ¬ FA P0 O σ a ∧ Reps K H ds (FA P0 O σ) vs) where
  go := fun P0 i ρ σ H S ⟨h1, _, _⟩ hi => hJ1 i H h1 (by rw [List.length_zip] ; simp at hi; omega)
  stop := fun P0 ρ σ H S ⟨h1, _, _⟩ => hJ2 _ H h1 (by simp; omega)
  yld := fun P0 i ρ σ H x H' d S ⟨h1, h2, h3⟩ hd' y => by
    obtain ⟨T, k, v, kv, e1, e2, rfl, hT, rfl⟩ := hJ3 i H x H' y
    rw [List.getElem?_map] at hd'
    cases q : (ks.zip ds)[i]? with
    | none => rw [q] at hd'; cases hd'
    | some p =>
      rw [q] at hd'
      cases hd'
      obtain ⟨k1, k2⟩ := zip_at q
      obtain ⟨k3, k4⟩ := zip_at e1
      rw [k1] at k3
      cases k3
      obtain ⟨v', k5, r⟩ := h3.get k2
      rw [k4] at k5
      cases k5
      exact ⟨Same.new hT, Rep.newT S.dom (Reps.cons (e2 _) (Reps.cons r Reps.nil)) hT⟩
  keep := fun P0 ρ σ H ρ' σ' H' S k w _ ⟨h1, h2, h3⟩ => ⟨k _ _ h1 h2, (fun z => (w a z).elim h2 fun z => by rw [h1] at z; cases z), h3.mono ds S.dom k w⟩
  mem := fun _ _ _ _ _ w hw => nomatch hw
  grow := fun P0 P1 ρ σ H H' S w k ⟨h1, h2, h3⟩ => by
    have q : ∀ b, FA P1 O σ b → FA P0 O σ b ∨ H b = none := fun b z => by
      rcases z with z | z
      · exact (w b z).imp .inl id
      · exact .inl (.inr z)
    exact ⟨k _ _ h1, (fun z => (q a z).elim h2 fun z => by rw [h1] at z; cases z), h3.mono ds S.dom (fun b o e _ => k b o e) q⟩
theorem items_readK {P0 : Pr} {E : EK} {σ : L2.St} {H : Hp} {R' : It → Hp → Prop} {i : Nat} {kvs : List (Key × V)} (ho : i ∉ O) (h : tMi K P0 O W E (cItems i) σ H R') (e : σ[i]? = some (some (.ref a))) (hf : H a = some (.frz o (.dK kvs))) : iItems (tVar i) σ H R' := by
  obtain ⟨ρ, S, h⟩ := h
  obtain ⟨d, e1, h⟩ := Res.of_nox h
  obtain ⟨ps, e2, h⟩ := Res.of_nox h
  obtain ⟨v, e3, r⟩ := S.val i d (look_some e1) ho
  rw [e] at e3
  cases e3
  by_cases c : szOk ps.length = true
  · rw [if_pos c] at h
    cases d with
    | dik ks ds =>
      cases e2
      unfold Rep at r
      obtain ⟨b, vs, eb, h0, hl, rd, rs⟩ := r
      cases eb
      have ek : kvs = ks.zip vs := by
        rcases rd with rd | ⟨y, rd⟩ <;> (rw [hf] at rd; cases rd)
        rfl
      subst ek
      refine ⟨.ref a, e, a, o, _, rfl, hf, h (Iti a o (ks.zip vs)) H _ S .refl (src_items (J := Iti a o (ks.zip vs)) (mk := HO.dK) (f := keyD) (ds := ds) (o := o) (a := a) (fun i H h1 h2 => ⟨h1, h2⟩) (fun i H h1 h2 => ⟨h1, h2⟩) (fun i H x H' ⟨T, k, v, y1, y2, y3, y4⟩ => ⟨T, k, v, kV k, y1, fun P => rep_key k, y2, y3, y4⟩) hl rs.length) ⟨hf, h0, rs.less (mutK S.dom (.inr ⟨o, hf⟩)) fun b z => .inl z⟩ (of_decide_eq_true c)⟩
    | dit ks ds =>
      unfold Rep at r
      obtain ⟨b, vs, eb, h0, hl, rd, rs⟩ := r
      cases eb
      rcases rd with rd | ⟨y, rd⟩ <;> (rw [hf] at rd; cases rd)
    | _ => cases e2
  · rw [if_neg c] at h; exact h.elim
theorem items_readT {P0 : Pr} {E : EK} {σ : L2.St} {H : Hp} {R' : It → Hp → Prop} {i : Nat} {kvs : List (List Key × V)} (ho : i ∉ O) (h : tMi K P0 O W E (cItems i) σ H R') (e : σ[i]? = some (some (.ref a))) (hf : H a = some (.frz o (.dT kvs))) : iItemsT (tVar i) σ H R' := by
  obtain ⟨ρ, S, h⟩ := h
  obtain ⟨d, e1, h⟩ := Res.of_nox h
  obtain ⟨ps, e2, h⟩ := Res.of_nox h
  obtain ⟨v, e3, r⟩ := S.val i d (look_some e1) ho
  rw [e] at e3
  cases e3
  by_cases c : szOk ps.length = true
  · rw [if_pos c] at h
    cases d with
    | dit ks ds =>
      cases e2
      unfold Rep at r
      obtain ⟨b, vs, eb, h0, hl, rd, rs⟩ := r
      cases eb
      have ek : kvs = ks.zip vs := by
        rcases rd with rd | ⟨y, rd⟩ <;> (rw [hf] at rd; cases rd)
        rfl
      subst ek
      refine ⟨.ref a, e, a, o, _, rfl, hf, h (ItiT a o (ks.zip vs)) H _ S .refl (src_items (J := ItiT a o (ks.zip vs)) (mk := HO.dT) (f := fun k => .tup (k.map keyD)) (ds := ds) (o := o) (a := a) (fun i H h1 h2 => ⟨h1, h2⟩) (fun i H h1 h2 => ⟨h1, h2⟩) (fun i H x H' ⟨T, q, k, v, y1, yq, y2, y3, y4⟩ => ⟨T, k, v, .ref q, y1, fun P => Rep.tup_of yq (reps_keys k), y2, y3, y4⟩) hl rs.length) ⟨hf, h0, rs.less (mutT S.dom (.inr ⟨o, hf⟩)) fun b z => .inl z⟩ (of_decide_eq_true c)⟩
    | dik ks ds =>
      unfold Rep at r
      obtain ⟨b, vs, eb, h0, hl, rd, rs⟩ := r
      cases eb
      rcases rd with rd | ⟨y, rd⟩ <;> (rw [hf] at rd; cases rd)
    | _ => cases e2
  · rw [if_neg c] at h; exact h.elim
end

theorem PS.or {X : Cx} {st : Stmt} {t t' : TS} (h : PS X st t) (h' : PS X st t') : PS X st fun D σ H => t D σ H ∨ t' D σ H :=
  ⟨fun pins s σ H D I q => q.elim (h.run pins s σ H D I) (h'.run pins s σ H D I)⟩
section
variable {K : PySem.W.Frag} {P0 : Pr} {O W U : List Nat} {E : EK} {ρ : Y.Env} {σ : L2.St} {H : Hp} {m : SM} {D : Ends} {a : Addr} {u : HO}
end
section
variable {X : Cx} {P0 : Pr} {O W U : List Nat} {E : EK} {m : SM}
end
@[simp] theorem e_items {i : Nat} {ρ : Y.Env} : cItems i ρ = ((look i ρ).nox >>= fun d => (dicItems d).nox >>= fun ds => if szOk ds.length = true then R.ok ((ds, []), ρ) else .stk) := id rfl
@[simp] theorem d_itemsK {ks : List Key} {ds : List D} : dicItems (.dik ks ds) = .ok ((ks.zip ds).map fun p => .tup [keyD p.1, p.2]) := id rfl
@[simp] theorem d_itemsT {ks : List (List Key)} {ds : List D} : dicItems (.dit ks ds) = .ok ((ks.zip ds).map fun p => .tup [.tup (p.1.map keyD), p.2]) := id rfl
end Y

set_option Elab.async false
set_option linter.all false
set_option maxRecDepth 100000
namespace Y
open PySem PySem.Spec PyProof.Rows L2
section
variable {X : Cx} {pins : List (Addr × Obj)} {σ : L2.St} {H : Hp} {s : Shared}
end
variable {ρ : Y.Env}
@[simp] theorem e_dicnew {tup : Bool} {i : Nat} : sDicNew tup i ρ = if i < ρ.length then .ok (.nx, ρ.set i (some (if tup = true then .dit [] [] else .dik [] []))) else .stk := id rfl
@[simp] theorem e_dicAtK {i : Nat} : dicAt i ρ = (match ρ[i]? with | some (some (.dik ks ds)) => .ok (.dik ks ds) | some (some (.dit ks ds)) => .ok (.dit ks ds) | _ => .stk) := id rfl
@[simp] theorem d_getK {ks : List Key} {ds : List D} {i : Int} : getDic (.dik ks ds) (.int i) = .ok (findD ks ds (.inl i)) := id rfl
end Y

set_option Elab.async false
set_option linter.all false
set_option maxRecDepth 100000
set_option maxHeartbeats 4000000
namespace Y
open PySem PySem.Spec PyProof.Rows L2
section
variable {X : Cx} {pins : List (Addr × Obj)} {σ : L2.St} {H : Hp} {s : Shared}
end
end Y

set_option Elab.async false
set_option linter.all false
set_option maxRecDepth 100000
set_option maxHeartbeats 4000000
namespace Y
open PySem PySem.Spec PyProof.Rows L2
def leP (a b : PyData) : Bool := !PySem.W.dataLt b a
def leB (a b : D) : Bool := leP (toPy a) (toPy b)
def isTP : PyData → Bool
  | .tuple (_ :: _) => true
  | _ => false
def isOP : PyData → Bool
  | .none => false
  | .tuple _ => false
  | _ => true
def sortsOk (ds : List D) : Bool := (ds.all fun a => (toPy a).canLay0 && decide ((toPy a).depth ≤ 50) && ds.all fun b => PySem.W.alike (toPy a) (toPy b)) && (ds.all (fun a => isTP (toPy a)) || ds.all fun a => isOP (toPy a))
noncomputable def sortGD : List D → R D
  | [.lst ds] => if sortsOk ds = true then .ok (.lst (ds.mergeSort leB)) else .stk
  | _ => .stk
section
variable {K : PySem.W.Frag} {X : Cx} {H : Hp} {P : Pr}
end
section
variable {X : Cx}
end
end Y

set_option Elab.async false
set_option linter.all false
set_option maxRecDepth 100000
namespace Y
open PySem PySem.Spec PyProof.Rows L2
def D1 (p : Addr) (Q : VK) (x y : V) (H2 : Hp) : Prop := H2 p = some (.dT []) ∧ ∃ (q : Addr) (k : List Key), x = .ref q ∧ H2 q = some (.tup (k.map kV)) ∧ Q (.ref p) (upd H2 p (.dT [(k, y)]))
end Y

set_option Elab.async false
set_option linter.all false
set_option maxRecDepth 100000
namespace Y
open PySem PySem.Spec PyProof.Rows L2
section
variable {K : PySem.W.Frag} {X : Cx} {P0 : Pr} {O W U : List Nat} {E : EK} {pos : Pos}
end
section
variable {X : Cx} {P0 : Pr} {O W : List Nat} {E : EK} {a b : Expr} {ma mb : EM} {pos : Pos}
end
end Y

set_option Elab.async false
set_option linter.all false
set_option maxRecDepth 100000
namespace Y
open PySem PySem.Spec PyProof.Rows L2
def knownB (ρ : Y.Env) (q : Nat) : Bool := match ρ[q]? with | some (some _) => true | _ => false
section
variable {K : PySem.W.Frag} {P0 : Pr} {O W U : List Nat} {ρ ρ1 ρ2 : Y.Env} {σ σ1 σ3 : L2.St} {H H1 H2 H3 : Hp} {i : Nat} {vs : List Nat}
/-- what the state is apart from the new objects A -/
theorem Sim.apart (S1 : Sim K P0 O W ρ1 σ H1) (S2 : Sim K P0 O W ρ2 σ H2) (kp : ∀ b o, H1 b = some o → ¬ OA W σ b → H2 b = some o) {A : Pr} (hA : ∀ b, A b → H1 b = none ∧ isMut (H2 b))
    (c : ∀ (j : Nat) d, ρ2[j]? = some (some d) → (ρ1[j]? = some (some d) ∧ j ∉ W) ∨ (j ∈ O ∧ d.shallow = true) ∨ d.nl = true) : Sim K (fun b => P0 b ∨ A b) O W ρ2 σ H2 := by
  have fa : ∀ b, FA (fun b => P0 b ∨ A b) O σ b → FA P0 O σ b ∨ H1 b = none := fun b z => by
    rcases z with (z | z) | z
    · exact .inl (.inl z)
    · exact .inr (hA b z).1
    · exact .inl (.inr z)
  have kf : ∀ b o, H1 b = some o → ¬ FA P0 O σ b → H2 b = some o := fun b o e n => kp b o e fun z => n (.inr (S1.oaw z))
  refine ⟨S2.sub, S2.len, fun b z => ?_, fun j d e n => ?_, fun j d e n => ?_, S2.sep, fun a z y => ?_⟩
  · rcases z with (z | z) | z
    · exact S2.dom b (.inl z)
    · exact (hA b z).2
    · exact S2.dom b (.inr z)
  · rcases c j d e with ⟨e0, _⟩ | ⟨z, _⟩ | nl
    · obtain ⟨w, h1, h2⟩ := S1.val j d e0 n
      exact ⟨w, h1, h2.mono d S1.dom kf fa⟩
    · exact absurd z n
    · obtain ⟨w, h1, h2⟩ := S2.val j d e n
      exact ⟨w, h1, h2.nl nl⟩
  · rcases c j d e with ⟨e0, hw⟩ | ⟨_, sh⟩ | nl
    · obtain ⟨w, h1, h2⟩ := S1.own j d e0 n
      refine ⟨w, h1, h2.mono S1.dom kf fa fun a o e1 e2 => ?_⟩
      subst e1
      refine kp a o e2 fun ⟨x, hx, ex⟩ => ?_
      have := S1.sep x j a (S1.sub x hx) n ex h1
      exact hw (this ▸ hx)
    · obtain ⟨w, h1, h2⟩ := S2.own j d e n
      exact ⟨w, h1, h2.shallow sh⟩
    · obtain ⟨w, h1, h2⟩ := S2.own j d e n
      refine ⟨w, h1, ?_⟩
      cases d <;> first | exact h2 | (simp [D.nl] at nl)
  · rcases y with y | y
    · exact S2.sep0 a z y
    · have q := S1.dom a (.inr z)
      rw [(hA a y).1] at q
      exact q
end
section
variable {X : Cx} {P0 : Pr} {O W U : List Nat} {E : EK} {XE : XK} {c e e2 : Expr} {es : List Expr} {ms : AM} {mr : EM} {pos pos2 p p2 p3 px : Pos} {k np i : Nat} {name x : Str} {t : BM} {n : SM} {tl : List Stmt} {tr : D → Bool} {R : PySem.W.Frag → Pr → V → Hp → Prop} {vs qs : List Nat}
end
end Y

set_option Elab.async false
set_option linter.all false
set_option maxRecDepth 100000
namespace Y
open PySem PySem.Spec PyProof.Rows L2
section
variable {X : Cx} {pins : List (Addr × Obj)} {σ : L2.St} {H : Hp} {s : Shared} {a b : Addr} {r : Value} {d : V} {k : List Key} {A : Around} {E : Value → Shared → Prop}
theorem d_setdT {kvs : List (List Key × V)} {Q : Value → Shared → Prop} (hu : A.units + 1 < cLine) (I : Inv X pins σ H s) (e : H a = some (.dT kvs)) (eb : H b = some (.tup (k.map kV))) (rd : RelV d r) (hl : kvs.length < sizeLine)
    (h1 : ∀ v, valV kvs k = some v → ∀ (w' : Value) (s' : Shared), Inv X pins σ H s' → RelV v w' → Q w' s') (h2 : valV kvs k = none → ∀ (w' : Value) (s' : Shared), Inv X pins σ (upd H a (.dT (putK kvs k d))) s' → RelV d w' → Q w' s') :
    wpAny (model X.prog X.w) A (call (.builtin "dict.setdefault") [.ref a, .ref b, r]) Q E s := by
  obtain ⟨z, hd, xs, rel, dd⟩ := dt_of I.hok e
  have hz : xs.length ≤ sizeLine := by rw [← Paired.length rel]; exact z
  refine call_setdefault_heap (hsz := hz) (tupleKind_room_in1 hu) (key_of I.hok eb) hd dd (fun p hp => ?_) fun hn h' dd' hs => ?_
  · have q := rel.val k
    rw [hp] at q
    cases q0 : valV kvs k with
    | none => rw [q0] at q; exact (show False from q).elim
    | some v0 => rw [q0] at q; exact h1 v0 q0 _ _ (I.tok _) q
  · have q := rel.val k
    rw [hn] at q
    cases q0 : valV kvs k with
    | some v0 => rw [q0] at q; exact (show False from q).elim
    | none =>
      have hl2 : (putK kvs k d).length ≤ sizeLine := by have := length_putK kvs k d; omega
      refine h2 q0 _ _ ?_ rd
      obtain ⟨q, es, ep, hq, h2, h3, h4, _, h5⟩ := dd'
      refine d_write I (by rw [e]; exact True.intro) hs ⟨q, hq⟩ ⟨hl2, hd, _, (rel.put k eb rd).keeps fun c ys ec => ?_, q, es, ep, hq, h2, h3, h4, h5⟩
      rw [upd_ne (ne_of ec e (fun z => nomatch z))]
      exact ec
end
def tDSetdT (td ty tx : TE) : TE := fun σ H Q => td σ H fun x H1 => ∃ a, x = .ref a ∧ IsD H1 a ∧ ty σ H1 fun y H2 => tx σ H2 fun z H3 => ∃ (kvs : List (List Key × V)) (k : List Key) (b : Addr), H3 a = some (.dT kvs) ∧ y = .ref b ∧ H3 b = some (.tup (k.map kV)) ∧ kvs.length < sizeLine ∧
  (∀ v, valV kvs k = some v → Q v H3) ∧ (valV kvs k = none → Q z (upd H3 a (.dT (putK kvs k z))))
section
variable {X : Cx} {o e f : Expr} {td ty tx : TE} {apos cpos : Pos}
theorem pe_dsetdT (hu : X.A.units + 1 < cLine) (ho : PE X o td) (he : PE X e ty) (hf : PE X f tx) (m : M2 X o "setdefault" apos e f cpos) : PE X (.Call (.Attribute o "setdefault" apos) [e, f] [] cpos) (tDSetdT td ty tx) := by
  refine ⟨fun pins s σ H Q I h => ?_⟩
  refine wpAny_Call_method m.base m.few m.line PySem.F.plainAttrs_dict PySem.F.slot_dict_setdefault PySem.F.type_dict_setdefault (thn (ho.run pins s σ H _ I h) fun u s1 ⟨x, H1, I1, rx, a, ex, d, q1⟩ => ?_)
  subst ex
  obtain rfl : u = Value.ref a := rx
  obtain ⟨t1, t2, _⟩ := isD_at I1 d
  refine ⟨t1, t2, ?_⟩
  rw [m.trees]
  refine Calls.callWith_builtin rfl (Calls.evalArgs_plain (Calls.spliced_cons (thn (he.run pins s1 σ H1 _ I1 q1) fun iv s2 ⟨y, H2, I2, ry, q2⟩ =>
    Calls.spliced_cons (thn (hf.run pins s2 σ H2 _ I2 q2) fun fv s3 ⟨z, H3, I3, rz, kvs, k, b, ea, ey, eb, hl, q3, q4⟩ => Calls.spliced_nil ?_))))
  subst ey
  obtain rfl : iv = Value.ref b := ry
  exact d_setdT hu I3 ea eb rz hl (fun v hv w' s4 I4 rw' => ⟨v, _, I4, rw', q3 v hv⟩) fun hn w' s4 I4 rw' => ⟨z, _, I4, rw', q4 hn⟩
end
abbrev Grp := List (List Key × List Int)
def gAdd (k : List Key) (s : Int) : Grp → Grp
  | [] => [(k, [s])]
  | (k', l) :: g => if k' = k then (k', l ++ [s]) :: g else (k', l) :: gAdd k s g
/-- the groups lie in objects of their own, new since H1 -/
def GOk (H1 Hx : Hp) : Grp → List Addr → Prop
  | [], bs => bs = []
  | (_, l) :: g, bs => ∃ b r, bs = b :: r ∧ H1 b = none ∧ Hx b = some (.lst (l.map V.int)) ∧ b ∉ r ∧ GOk H1 Hx g r
def kvG : Grp → List Addr → List (List Key × V)
  | (k, _) :: g, b :: bs => (k, .ref b) :: kvG g bs
  | _, _ => []
section
variable {H1 Hx Hy : Hp}
theorem GOk.keep : ∀ {g : Grp} {bs : List Addr}, GOk H1 Hx g bs → (∀ b ∈ bs, Hy b = Hx b) → GOk H1 Hy g bs
  | [], bs, h, _ => h
  | (_, l) :: g, bs, ⟨b, r, e, h1, h2, h3, h4⟩, k => ⟨b, r, e, h1, by rw [k b (by simp [e])]; exact h2, h3, h4.keep fun c hc => k c (by simp [e, hc])⟩
theorem GOk.mem : ∀ {g : Grp} {bs : List Addr}, GOk H1 Hx g bs → ∀ b ∈ bs, H1 b = none ∧ ∃ l, Hx b = some (.lst l)
  | [], bs, h, b, hb => by
    have h : bs = [] := h
    rw [h] at hb
    cases hb
  | (_, l) :: g, bs, ⟨b0, r, e, h1, h2, h3, h4⟩, b, hb => by
    rw [e] at hb
    rcases List.mem_cons.mp hb with rfl | hb
    · exact ⟨h1, _, h2⟩
    · exact h4.mem b hb
theorem GOk.get {k : List Key} {s : Int} : ∀ {g : Grp} {bs : List Addr} {v : V}, GOk H1 Hx g bs → valV (kvG g bs) k = some v → ∃ b l, v = .ref b ∧ b ∈ bs ∧ Hx b = some (.lst (l.map V.int)) ∧ (∃ k', (k', l) ∈ g) ∧ GOk H1 (upd Hx b (.lst (l.map V.int ++ [.int s]))) (gAdd k s g) bs ∧ kvG (gAdd k s g) bs = kvG g bs
  | [], bs, v, h, e => by cases e
  | (k', l) :: g, bs, v, ⟨b, r, eb, h1, h2, h3, h4⟩, e => by
    subst eb
    unfold gAdd
    by_cases c : k' = k
    · have e : valV ((k', V.ref b) :: kvG g r) k = some v := e
      rw [valV_pos c] at e
      cases e
      rw [if_pos c]
      refine ⟨b, l, rfl, by simp, h2, ⟨k', by simp⟩, ⟨b, r, rfl, h1, by rw [upd_same, List.map_append]; rfl, h3, h4.keep fun c hc => upd_ne fun z => h3 (by rw [← z]; exact hc)⟩, rfl⟩
    · have e : valV ((k', V.ref b) :: kvG g r) k = some v := e
      rw [valV_neg c] at e
      obtain ⟨b2, l2, e1, e2, e3, ⟨k2, ek⟩, e4, e5⟩ := h4.get (s := s) e
      rw [if_neg c]
      refine ⟨b2, l2, e1, by simp [e2], e3, ⟨k2, by simp [ek]⟩, ⟨b, r, rfl, h1, by rw [upd_ne fun z => h3 (by rw [z]; exact e2)]; exact h2, h3, e4⟩, ?_⟩
      show (k', V.ref b) :: kvG (gAdd k s g) r = (k', V.ref b) :: kvG g r
      rw [e5]
theorem GOk.len : ∀ {g : Grp} {bs : List Addr}, GOk H1 Hx g bs → (kvG g bs).length = g.length ∧ bs.length = g.length
  | [], bs, h => by
    have h : bs = [] := h
    subst h
    exact ⟨rfl, rfl⟩
  | (k, l) :: g, bs, ⟨b, r, e, _, _, _, h⟩ => by
    subst e
    have := h.len
    exact ⟨by show (kvG g r).length + 1 = _; rw [this.1]; rfl, by simp [this.2]⟩
end
section
variable {K : PySem.W.Frag} {P0 : Pr} {O W U : List Nat} {ρ : Y.Env} {σ σ3 : L2.St} {H1 H3 : Hp} {i : Nat} {sl : List Nat}
end
section
variable {X : Cx} {P0 : Pr} {O W U : List Nat} {E : EK} {tg iter : Expr} {pos pos3 p1 p2 p3 p4 p5 ap ap2 cp cp2 : Pos} {x ya yb ys : Str}
end
end Y

set_option Elab.async false
set_option linter.all false
set_option maxRecDepth 100000
namespace Y
open PySem PySem.Spec PyProof.Rows L2
section
variable {prog : Program} {w : World} {A : Around} {E : Value → Shared → Prop} {s : Shared}
theorem list_done_hot {it l x1 : Addr} {i : Nat} {items : Array Value} {Q : Option Value → Shared → Prop} (hot : HotX.HotAt A x1 s.heap) (ne : x1 ≠ it) (hi : s.heap.IsListIter it l i) (hl : s.heap.IsList l items) (hx : items[i]? = none)
    (q : ∀ h', (∀ b o, b ≠ it → s.heap.get? b = some o → h'.get? b = some o) → Q none { s with heap := h' }) : wpAny (model prog w) A (pyNext (.ref it)) Q E s := by
  obtain ⟨hh, oe, ve, ge, de, ce⟩ := hot
  obtain ⟨oi, gi, ci, di⟩ := id hi
  obtain ⟨ol, gl, _, n, dl⟩ := hl
  unfold pyNext
  refine wpAny_bind (wpAny_attempt (wpAny_callSpecial?_slot (name := Str.ofString "__next__") hi.typeIs slot_listiter_next (wpAny_call_entry slot_listiter_next hi.typeIs entry_listiter_next ?_ (args_listiter_next _))))
  show wpAny _ _ (field (.ref it) 0 >>= _) _ _ s
  refine wpAny_bind (wpAny_field gi di (x := .ref l) rfl ?_)
  show wpAny _ _ (if (Value.ref l == Value.none) = true then _ else _) _ _ s
  rw [if_neg (show ¬ ((Value.ref l == Value.none) = true) from Bool.false_ne_true)]
  show wpAny _ _ (field (.ref it) 1 >>= _) _ _ s
  refine wpAny_bind (wpAny_field gi di (x := .int i 0) rfl ?_)
  show wpAny _ _ (seqItems? (.ref l) >>= _) _ _ s
  refine wpAny_bind (wpAny_seqItems gl dl ?_)
  simp only [Int.toNat_natCast, hx]
  refine wpAny_bind (wpAny_rule (wpAny_bind (wpAny_setField gi di (by simp) ?_)))
  show wpAny _ _ (newExc (.type "StopIteration") [] >>= _) _ _ _
  refine wpAny_bind ?_
  simp only [newExc, newTuple]
  refine wpAny_bind (wpAny_newObj_type ?_ (by size_fits))
  refine wpAny_bind (m := firstArgMember _ _) (wpAny_of_eq (a := Value.none) (by first | rfl | (simp only [firstArgMember]; rfl)) ?_)
  refine wpAny_newObj_type ?_ (by size_fits)
  have gx := (Heap.get?_update_other s.heap (Obj.mapFields fun x => x.setIfInBounds 0 Value.none) (fun z : it = x1 => ne z.symm)).trans ge
  refine HotX.raiseNew_hot ⟨hh, oe, ve, Heap.get?_push_of_some _ (Heap.get?_push_of_some _ gx), de, ce⟩ (Nat.ne_of_lt (Heap.lt_size (Heap.get?_push_of_some _ gx))) (Heap.get?_push_size _ rfl) rfl (by first | (simp; done) | (simp; omega) | (simp only [Array.size_append]; simp; omega)) ?_
  refine wpAny_bind (wpAny_isInstance (T := "StopIteration") (b := true) ⟨_, Heap.get?_update_self _ (Heap.get?_push_size _ rfl) rfl, rfl⟩ isSubtype_stop ?_)
  refine wpAny_pure (q _ fun b o nb e => ?_)
  have e1 := (Heap.get?_update_other s.heap (Obj.mapFields fun x => x.setIfInBounds 0 Value.none) (fun z : it = b => nb z.symm)).trans e
  rw [Heap.get?_update_other _ _ (Nat.ne_of_gt (Heap.lt_size (Heap.get?_push_of_some _ e1)))]
  exact Heap.get?_push_of_some _ (Heap.get?_push_of_some _ e1)
theorem walks_hot {x1 I ax : Addr} (hh : A.handled = some (.ref x1)) (n1 : ax ≠ I) (n2 : x1 ≠ I) (items : Array Value) :
    Walks prog w A I [I, ax, x1] [I] items.size (fun i v => items[i]? = some v) (fun i h => h.IsListIter I ax i ∧ h.IsList ax items ∧ ∃ (o : Obj) (vs : Array Value), h.get? x1 = some o ∧ o.data = .fields vs ∧ vs[2]? = some .none) where
  sub := fun b hb => by
    have e : b = I := by simpa using hb
    rw [e]; exact List.mem_cons_self
  frame := fun _ _ _ ⟨a, b, o, vs, g, d, c⟩ hk => ⟨a.at fun o e => hk I (by simp) o e, b.at fun o e => hk ax (by simp) o e, o, vs, hk x1 (by simp) o g, d, c⟩
  item := fun i s Q E hi ⟨a, b, o, vs, g, d, c⟩ q => by
    refine wpAny_pyNext_list_item a b (x := items[i]) (by simp [hi]) fun h' a' sb => ?_
    exact q _ h' s.toks (by simp [hi]) ⟨a', b.extBut sb.extBut n1, o, vs, sb.extBut x1 o n2 g, d, c⟩ fun b o hb e => sb.extBut b o (fun h => hb (by simp [h])) e
  done := fun s Q E ⟨a, b, o, vs, g, d, c⟩ q => list_done_hot ⟨hh, o, vs, g, d, c⟩ n2 a b (by simp) fun h' k => q h' s.toks fun b o hb e => k b o (fun h => hb (by simp [h])) e
  self := fun _ _ _ _ st q => wpAny_pyIter_listiter st.1 q
theorem sum_hotR {x1 l : Addr} {vs : List Value} {ns : List Int} {Q : Value → Shared → Prop} (hot : HotX.HotAt A x1 s.heap) (hl : s.heap.IsList l vs.toArray) (hi : IntsAre vs ns)
    (q : ∀ h' tk t', (∀ b o, s.heap.get? b = some o → h'.get? b = some o) → Q (.int ns.sum t') { s with heap := h', toks := tk }) : wpAny (model prog w) A (call (.builtin "sum") [.ref l]) Q E s := by
  obtain ⟨hh, oe, ve, ge, de, ce⟩ := hot
  obtain ⟨xs, hx⟩ := hi.allInts.items
  have hn : numsOf vs.toArray.toList = ns := by rw [show vs.toArray.toList = vs from rfl, hi.numsOf]
  rw [hx] at hl hn
  rw [nums_intItems] at hn
  obtain ⟨ol, gl, cl, n, dl⟩ := id hl
  have n1 : l ≠ s.heap.objs.size := Nat.ne_of_lt (Heap.lt_size gl)
  have n2 : x1 ≠ s.heap.objs.size := Nat.ne_of_lt (Heap.lt_size ge)
  have hz : (intItems xs).size = xs.size := by simp [intItems]
  have W := (walks_hot (prog := prog) (w := w) (A := A.in1) (I := s.heap.objs.size) hh n1 n2 (intItems xs)).toS
  rw [hz] at W
  refine call_sum_walkAnyS (wpAny_pyIter_list hl ⟨s.heap.objs.size, _, _, _, _, _, _, numAt xs, rfl, W, ⟨⟨_, Heap.get?_push_size _ rfl, rfl, rfl⟩, hl.at fun o e => Heap.get?_push_of_some _ e, oe, ve, Heap.get?_push_of_some _ ge, de, ce⟩, fun b hb => ?_, fun i v hP => intItems_at hP, fun s' t' hm => ?_⟩)
  · rcases List.mem_cons.mp hb with rfl | hb
    · exact Heap.lt_size (Heap.get?_push_size _ rfl)
    · rcases List.mem_cons.mp hb with rfl | hb
      · exact Heap.lt_size (Heap.get?_push_of_some _ gl)
      · obtain rfl := List.mem_singleton.mp hb
        exact Heap.lt_size (Heap.get?_push_of_some _ ge)
  · obtain ⟨h', g', d', tk', os'⟩ := s'
    have e1 : g' = s.gens := hm.gens
    have e2 : d' = s.drawn := hm.drawn
    have e3 : os' = s.os := hm.os
    subst e1 e2 e3
    have z := q h' tk' t' fun b o e => hm.heap b o (fun hb => absurd (Heap.lt_size e) ((List.mem_singleton.mp hb) ▸ Nat.lt_irrefl _)) (Heap.get?_push_of_some _ e)
    rw [← hn] at z
    rw [preSum_eq, List.take_of_length_le (by simp)]
    exact z
end
section
variable {X : Cx}
theorem cd_sumH (hot : L2H.HotC X) : CallR X (.builtin "sum") (rDs X.K sumD) := by
  intro pins s σ H xs us Q I r ⟨P, ds, dz, hm, rs, e, out⟩
  obtain ⟨x1, h1⟩ := hot.at I
  unfold sumD at e
  split at e
  · split at e
    · rename_i ns c; cases e
      obtain ⟨v, rfl, r1⟩ := rs.get1
      obtain ⟨a, vs, rfl, g1, g2⟩ := r1.lst
      obtain rfl := ints_rep c g2
      obtain ⟨its, rv, hl, _⟩ := I.list (SqL.of g1)
      rw [Vals.ref1 r]
      exact sum_hotR h1 hl.isList rv.ints fun h' tk t' hk => ⟨.int _, H, I.kept hk, ⟨_, rfl⟩, out.int⟩
    · cases e
  · cases e
end
end Y

set_option Elab.async false
set_option linter.all false
set_option maxRecDepth 100000
namespace Y
open PySem PySem.Spec PyProof.Rows L2
def i01 (b : Bool) : V := .int (if b then 1 else 0)
theorem SqL.laid {K : PySem.W.Frag} {H : Hp} {a D : Addr} {xs : List V} {o : HO} (h : SqL K H a xs) (n : H D = none) : SqL K (upd H D o) a xs := by
  rcases h with h | h
  · refine .inl (h.imp (fun e => ?_) fun ⟨o, e⟩ => ⟨o, ?_⟩)
    · rw [upd_ne (ne_of_none e n)]; exact e
    · rw [upd_ne (ne_of_none e n)]; exact e
  · exact .inr h
def tIntsH (K : PySem.W.Frag) (i : Nat) : TE := fun σ H Q => ∃ (a : Addr) (bs : List Bool), σ[i]? = some (some (.ref a)) ∧ SqL K H a (bs.map V.bl) ∧ ∀ D, H D = none → Q (.ref D) (upd H D (.lst (bs.map i01)))
section
variable {X : Cx} {i j : Nat}
theorem pe_intsH {elt tgt : Expr} {x y : Str} {scope : Scope} {pos p : Pos} (hot : L2H.HotC X) (hN : X.N.Nodup) (ok : BlkOk X.N X.env.scope scope [(x, j)])
    (hi : X.N[i]? = some y) (hv : Vis X.env.scope y)
    (hg : ∀ (s : Shared) (H : Hp) (C : Addr) (cl : List (Str × Addr)) (fp : List Addr), PG (X.blk s H scope (compEnvC scope cl C X.env) fp) tgt (gName j))
    (he : ∀ (s : Shared) (H : Hp) (C : Addr) (cl : List (Str × Addr)) (fp : List Addr), PE (X.blk s H scope (compEnvC scope cl C X.env) fp) elt (tCB (fun xs H Q => (∃ i, xs = [.int i] ∧ Q (.int i) H) ∨ ∃ k, xs = [.bl k] ∧ Q (i01 k) H) (tCons (tVar j) tNil)))
    (hs : ∀ v, foldedSetIterable (.Name y p) X.env v = pure v := by intro _; rfl) (hd : (y == ("__debug__" : Str)) = false := by decide) (hcd : (y == ("__classdict__" : Str)) = false := by decide) :
    PE X (.ListComp elt [⟨tgt, .Name y p, [], 0⟩] scope pos) (tIntsH X.K i) := by
  refine ⟨fun pins s σ H Q I h => ?_⟩
  obtain ⟨a, bs, ea, hq, q⟩ := h
  rw [eval_ListComp]
  have hfree : ∀ n ∈ scope.names, n.2 = .free → ∃ c, X.env.cells.lookup n.1 = some c := fun n hn e => (ok.free n hn e).elim (fun k => I.ok.has _ (.inl k)) fun k => I.ok.has _ (.inr k)
  refine wpAny_comprehension_free (use := none) rfl hs (closure_ok hfree) ok.kind (fun n hn e => by rw [ok.uniq n hn, e]) (thn ((pe_var (i := i) hi hv hd hcd).run pins s σ H (fun v H1 => v = .ref a ∧ H1 = H) I ⟨_, ea, rfl, rfl⟩) fun xv s1 ⟨v, H1, I1, r1, ev, eH⟩ => ?_)
  subst ev eH
  cases r1
  obtain ⟨its, rv, pl, hz⟩ := I1.list hq
  refine wpAny_pyIter_list pl.isList ?_
  generalize e2 : ({ s1 with heap := s1.heap.push { cls := .type "list_iterator", data := .fields #[.ref a, .int 0 0] } } : Shared) = s2
  have I2 : Inv X pins σ H1 s2 := by rw [← e2]; exact I1.kept (t' := s1.toks) fun b o e => Heap.get?_push_of_some _ e
  have it2 : s2.heap.IsListIter s1.heap.objs.size a 0 := by rw [← e2]; exact ⟨_, Heap.get?_push_size _ rfl, rfl, rfl⟩
  have fit : FpOk X pins H1 s1.heap.objs.size := I1.fpOk (Nat.le_refl _) (I1.hok.fresh (Nat.le_refl _))
  have nit : ∀ q ∈ X.pn, q.1 ≠ s1.heap.objs.size := fun q hq => fit.2.2.2.2.2 q (List.mem_append_left _ hq)
  generalize hit : s1.heap.objs.size = it at fit it2 nit ⊢
  refine wpAny_newObj_type (newEnv_comp ?_) (by show 0 ≤ sizeLine; decide)
  generalize hD : s2.heap.objs.size = D
  have nD : H1 D = none := I2.hok.fresh (Nat.le_of_eq hD)
  have lit : it < s2.heap.objs.size := by obtain ⟨o, e, _⟩ := it2; exact Heap.lt_size e
  have itD : it ≠ D := by rw [← hD]; exact Nat.ne_of_lt lit
  generalize e3 : ({ s2 with heap := s2.heap.push { cls := .type "list", data := .seq ([] : List Value).toArray } } : Shared) = s3
  have I3 : Inv X pins σ (upd H1 D (.lst [])) s3 := by
    rw [← e3]
    refine I2.laid (t' := s2.toks) (fun b o e => Heap.get?_push_of_some _ e) (Nat.le_of_eq hD) ⟨Nat.zero_le _, [], 0, .nil, ?_⟩
    rw [← hD]
    exact Heap.get?_push_size _ rfl
  have it3 : s3.heap.IsListIter it a 0 := by rw [← e3]; exact it2.at fun o e => Heap.get?_push_of_some _ e
  have l3 : it < s3.heap.objs.size := by obtain ⟨o, e, _⟩ := it3; exact Heap.lt_size e
  have f3 : ∀ b ∈ [it], FpOk X pins (upd H1 D (.lst [])) b ∧ b < s3.heap.objs.size := fun b hb => by
    obtain rfl := List.mem_singleton.mp hb
    exact ⟨⟨by rw [upd_ne itD]; exact fit.1, fit.2⟩, l3⟩
  have I4 := block_start I3 ok hN f3
  have pg := hg s3 (upd H1 D (.lst [])) s3.heap.objs.size (cellsFrom (s3.heap.objs.size + 1) scope.names (cloFrom X.env.cells scope.names [])) [it]
  have pe := he s3 (upd H1 D (.lst [])) s3.heap.objs.size (cellsFrom (s3.heap.objs.size + 1) scope.names (cloFrom X.env.cells scope.names [])) [it]
  show codeAny _ _ (.compStart (.ListComp elt [⟨tgt, .Name y p, [], 0⟩] scope pos) 0 (.ref it) (.ref D) (compEnvC scope (cellsFrom (s3.heap.objs.size + 1) scope.names (cloFrom X.env.cells scope.names [])) s3.heap.objs.size X.env)) (compPost (model X.prog X.w) X.A X.xe none _ (.ref D) s3.heap.objs.size) { s3 with heap := pushCells (s3.heap.push { cls := .type "dict", data := .dict #[] }) scope.names }
  generalize ec : compEnvC scope (cellsFrom (s3.heap.objs.size + 1) scope.names (cloFrom X.env.cells scope.names [])) s3.heap.objs.size X.env = ce at I4 pg pe ⊢
  have cL : ce.locals = s3.heap.objs.size := by subst ec; rfl
  have ex : ∀ (s' : Shared) (H' : Hp), Inv (X.blk s3 (upd H1 D (.lst [])) scope ce [it]) [] (wipe σ [j]) H' s' → Inv X pins σ H' s' := fun s' H' J =>
    I3.call' (ch := [it]) J.os J.base J.hok J.bare fun b hb => ⟨(f3 b hb).1.2.2.2.1, (f3 b hb).1.2.1, (f3 b hb).1.2.2.2.2.1, (f3 b hb).1.2.2.2.2.2⟩
  generalize e4 : ({ s3 with heap := pushCells (s3.heap.push { cls := .type "dict", data := .dict #[] }) scope.names } : Shared) = s4 at I4 ⊢
  have it4 : s4.heap.IsListIter it a 0 := by rw [← e4]; exact it3.at fun o e => pushCells_keeps _ _ _ _ (Heap.get?_push_of_some _ e)
  have uD : ∀ (k : Nat), (upd H1 D (.lst ((bs.map i01).take k))) it = none := fun k => by rw [upd_ne itD]; exact fit.1
  have fpo : ∀ {σ' : St} {s' : Shared} {k : Nat}, Inv (X.blk s3 (upd H1 D (.lst [])) scope ce [it]) [] σ' (upd H1 D (.lst ((bs.map i01).take k))) s' → ∀ b ∈ [it], FpOk (X.blk s3 (upd H1 D (.lst [])) scope ce [it]) [] (upd H1 D (.lst ((bs.map i01).take k))) b := fun {σ' s' k} J b hb => by
    obtain rfl := List.mem_singleton.mp hb
    exact ⟨uD k, (J.ok.exf b List.mem_cons_self).1, J.ok.exfs b List.mem_cons_self, .inl List.mem_cons_self, fun x c e => (J.ok.exf b List.mem_cons_self).2 x c e, fun q hq => nomatch (show q ∈ ([] : List (Addr × Obj)) from hq)⟩
  have loop : codeAny (model X.prog X.w) X.A (.compLoop (.ListComp elt [⟨tgt, .Name y p, [], 0⟩] scope pos) 0 (.ref it) (.ref D) ce) (compPost (model X.prog X.w) X.A X.xe none (fun u s' => ∃ v H', Inv X pins σ H' s' ∧ RelV v u ∧ Q v H') (.ref D) s3.heap.objs.size) s4 := by
    refine compLoop_any (fun n s' => ∃ k, n = bs.length - k ∧ k ≤ bs.length ∧ Inv (X.blk s3 (upd H1 D (.lst [])) scope ce [it]) [] (wipe σ [j]) (upd H1 D (.lst ((bs.map i01).take k))) s' ∧ s'.heap.IsListIter it a k) ?_ bs.length ⟨0, rfl, Nat.zero_le _, by simpa using I4, it4⟩
    rintro n s5 ⟨k, rfl, hk, I5, it5⟩
    have J5 := ex _ _ I5
    obtain ⟨its5, rv5, pl5, _⟩ := J5.list (SqL.laid (o := .lst ((bs.map i01).take k)) hq nD)
    have len5 := rv5.length
    rw [List.length_map] at len5
    obtain ⟨f0, f1, f2, f4, f5, f6⟩ := fpo I5 it List.mem_cons_self
    by_cases hlt : k < bs.length
    · have hx : (bs.map V.bl)[k]? = some (.bl bs[k]) := by rw [List.getElem?_map, List.getElem?_eq_getElem hlt]; rfl
      obtain ⟨u, hu, ru⟩ := rv5.get hx
      refine wpAny_pyNext_list_item it5 pl5.isList (x := u) (by simpa using hu) fun h' it6 sb => ?_
      have I6 : Inv (X.blk s3 (upd H1 D (.lst [])) scope ce [it]) [] (wipe σ [j]) (upd H1 D (.lst ((bs.map i01).take k))) { s5 with heap := h' } := I5.turned (t' := s5.toks) (fun b o hb e => (sb.2 b hb).trans e) f0 f1 f4 f5 f6
      obtain ⟨o6, g6, c6, d6⟩ := id it6
      have I6p := I6.pinned (fp := [it]) (fpo I6) fun b hb => by
        obtain rfl := List.mem_singleton.mp hb
        exact ⟨o6, g6, fun v z => by rw [d6] at z; cases z⟩
      refine go_of (s := { s5 with heap := h' }) g6 c6 d6 (by decide) ?_
      refine thnF (pg.run _ _ _ _ (.bl bs[k]) u (fun σ2 H2 => σ2 = (wipe σ [j]).set j (some (.bl bs[k])) ∧ H2 = upd H1 D (.lst ((bs.map i01).take k))) I6p ru ⟨rfl, rfl⟩) fun _ s8 ⟨σ8, H8, I8, es, eH⟩ => ?_
      subst es eH
      refine wpAny_tests_nil ?_
      simp only [if_true]
      have jl : j < (wipe σ [j]).length := by
        have e := ok.ix (x, j) List.mem_cons_self
        rw [wipe_length, I.len]
        exact (List.getElem?_eq_some_iff.mp e).1
      refine thnF (pe.run _ s8 _ _ (fun v H2 => v = i01 bs[k] ∧ H2 = upd H1 D (.lst ((bs.map i01).take k))) I8 ⟨_, List.getElem?_set_self jl, .inr ⟨_, rfl, rfl, rfl⟩⟩) fun z s10 ⟨v, H10, I10, r10, ev, eH⟩ => ?_
      subst ev eH
      have e7 : (bs.map i01).take k ++ [i01 bs[k]] = (bs.map i01).take (k + 1) := by
        rw [List.take_add_one, List.getElem?_map, List.getElem?_eq_getElem hlt]; rfl
      refine app_ok (X := X.blk s3 (upd H1 D (.lst [])) scope ce [it]) I10 upd_same (by rw [List.length_take, List.length_map]; rw [List.length_map] at hz; omega) r10 fun s11 I11 => ?_
      rw [e7, show upd (upd H1 D (.lst ((bs.map i01).take k))) D (.lst ((bs.map i01).take (k + 1))) = upd H1 D (.lst ((bs.map i01).take (k + 1))) from by funext b; unfold upd; split <;> rfl] at I11
      have st11 := I11.pin (it, o6) (List.mem_append_right _ (List.mem_append_right _ (mem_pinsAt List.mem_cons_self g6)))
      refine ⟨bs.length - (k + 1), by omega, k + 1, rfl, hlt, (I11.unpinned (pins := [])).weak (by simp) fun m v e => ?_, ⟨o6, st11.1, c6, d6⟩⟩
      rw [List.getElem?_set_ne fun z : j = m => (wipe_some e).2 (by rw [z]; exact List.mem_cons_self)]
      exact e
    · have ek : k = bs.length := by omega
      obtain ⟨pp, ⟨hh, v1, d1, c1⟩, hp⟩ := hot
      refine list_done_hot (x1 := pp.1) ⟨hh, pp.2, v1, (J5.pin pp (List.mem_append_left _ hp)).1, d1, c1⟩ (nit pp hp) it5 pl5.isList (by simp; omega) fun h' kp => ?_
      have I6 : Inv (X.blk s3 (upd H1 D (.lst [])) scope ce [it]) [] (wipe σ [j]) (upd H1 D (.lst ((bs.map i01).take k))) { s5 with heap := h' } := I5.turned (t' := s5.toks) kp f0 f1 f4 f5 f6
      have J6 := ex _ _ I6
      obtain ⟨m, hn, _⟩ := I6.loc
      have hn : h'.Ns ce.locals m := hn
      rw [cL] at hn
      have nC : (upd H1 D (.lst ((bs.map i01).take k))) s3.heap.objs.size = none := by
        have z : (upd H1 D (.lst ((bs.map i01).take k))) ce.locals = none := I6.free
        rw [cL] at z
        exact z
      have fC := I3.fpOk (Nat.le_refl _) nC
      rw [ek, List.take_of_length_le (by simp)] at J6 fC
      exact ⟨m, hn, fun h2 sb => ⟨.ref D, _, J6.turned (t' := s5.toks) (fun b o hb e => (sb.2 b hb).trans e) fC.1 fC.2.1 fC.2.2.2.1 fC.2.2.2.2.1 fC.2.2.2.2.2, rfl, q D nD⟩⟩
  exact codeAny_compStart_list loop (wpAny_pyIter_listiter it4 loop)
end
end Y

set_option Elab.async false
set_option linter.all false
set_option maxRecDepth 100000
namespace Y
open PySem PySem.Spec PyProof.Rows L2
/-- what f(e) tells of a refusal of the class C: the text y -/
structure FnZ (P : Program) (w : World) (K : PySem.W.Frag) (mg : Str → Option Value) (base : Heap) (k : Nat) (f : Addr) (fd : FuncData) (x : Str) (C : Addr) (y : Str) : Prop where
  run : ∀ (A : Around) (outer : List PySem.Env) (s : Shared) (H : Hp) (args : Args) (u : Value) (Q : VK) (E : XK) (p : Addr × Obj), L2H.RoomH k A → L2H.Hot1 A p → L2H.PinOk outer H s p → L2N.Zn (.ref C) none p.2 → Env0 P w K mg base A outer s H → BindsTo s fd args [(x, u)] → u = .ref p.1 →
    (∀ H', Same H H' → Q (.str y) H') → codeAny (model P w) A (.call (.ref f) args) (CR (L2N.CX P w) outer P w H s Q E) s
structure GloZ (P : Program) (w : World) (K : PySem.W.Frag) (mg : Str → Option Value) (base : Heap) (name : Str) (k : Nat) (x : Str) (cl : List Str) (kw : Str → Str) : Prop where
  ex : ∃ f fd, mg name = some (.ref f) ∧ PySem.W.keepIn K (.ref f) = true ∧ Binds K fd [x] [] ∧ ∀ cn ∈ cl, ∀ C, mg cn = some (.ref C) → FnZ P w K mg base k f fd x C (kw cn)
/-- isinstance(e, ValueError) -/
structure IsV (K : PySem.W.Frag) (mg : Str → Option Value) (es : List Str) : Prop where
  no : mg "ValueError" = none
  ex : ∀ c ∈ es, ∃ C, mg c = some (.ref C) ∧ PySem.W.kitOne K (.ref C) (.type "ValueError") = some true
theorem kit_ve {K : PySem.W.Frag} {C : Addr} (h : PySem.W.subIn K (.ref C) (.type "ValueError") = some true) : PySem.W.kitOne K (.ref C) (.type "ValueError") = some true := by
  unfold PySem.W.kitOne
  rw [if_neg (by simp)]
  show (if PySem.W.kitMeta "ValueError" = true then PySem.W.subIn K (.ref C) (.type "ValueError") else none) = some true
  rw [if_pos (by decide +kernel)]
  exact h
theorem _root_.L2H.RoomH.units65 {k : Nat} {A : Around} (r : L2H.RoomH k A) : A.units + 65 < cLine := by have := r.un; omega
theorem hot_of {A : Around} {a C : Addr} {oe : Obj} (hh : A.handled = some (.ref a)) (hz : L2N.Zn (.ref C) none oe) (hf : ∃ vs, oe.data = .fields vs) : L2H.Hot1 A (a, oe) := by
  obtain ⟨vs, d⟩ := hf
  exact ⟨hh, vs, d, hz.2.2 vs d⟩
section
variable {X : Cx} {P0 : Pr} {O W U : List Nat} {i : Nat} {ad : Addr} {a b c e : Expr} {es : List Expr} {ma mb mc : EM} {ms : AM} {bm bn : BM} {pos : Pos}
abbrev CZ (X : Cx) (P0 : Pr) (O W : List Nat) (i : Nat) (ad : Addr) (e : Expr) (m : EM) : Prop := PE X e (tZe X.K P0 O W i ad m)
abbrev CZs (X : Cx) (P0 : Pr) (O W : List Nat) (i : Nat) (ad : Addr) (es : List Expr) (m : AM) : Prop := PA X es (tZa X.K P0 O W i ad m)
def tZt (K : PySem.W.Frag) (P0 : Pr) (O W : List Nat) (i : Nat) (a : Addr) (m : BM) : TT := fun σ H Q => σ[i]? = some (some (.ref a)) ∧ tMt K P0 O W E00 m σ H Q
theorem zs_nil : CZs X P0 O W i ad [] cNil := PA.imp ca_nil fun _ _ _ q => q.2
theorem zs_cons (h : CZ X P0 O W i ad e ma) (hs : CZs X P0 O W i ad es ms) (hst : starEach (e :: es) X.env = (false, eval e X.env) :: starEach es X.env := by rfl) : CZs X P0 O W i ad (e :: es) (cCons ma ms) := PA.imp (pa_cons h hs hst) fun σ H Q ⟨z, ρ, S, h⟩ =>
  ⟨z, ρ, S, h.of_bind.mono fun ⟨h1, ρ1⟩ q v H1 S1 k1 r1 => ⟨z, ρ1, S1, (q.keep k1).of_bind.mono fun ⟨hs, ρ2⟩ q2 vs H2 S2 k2 r2 => q2 _ H2 S2 (k1.trans k2) ⟨v, vs, rfl, r1.keep S1 k2, HdRs.back k1.some r2⟩⟩⟩
theorem zz_lst (h : CZs X P0 O W i ad es ms) : CZ X P0 O W i ad (.List es pos) (cLst ms) := PE.imp (pe_lst h) fun σ H Q ⟨z, ρ, S, h⟩ =>
  ⟨z, ρ, S, h.of_bind.mono fun ⟨hs, ρ1⟩ q vs H1 S1 k1 r1 => by
    obtain ⟨ds, e1, q⟩ := q.of_nox
    by_cases c : szOk ds.length = true
    · rw [if_pos c] at q
      have rr := HdRs.vs r1 e1
      exact ⟨by rw [rr.length]; exact of_decide_eq_true c, fun p hp => (out_of S1 k1 q).newL S1.dom rr hp⟩
    · rw [if_neg c] at q
      exact q.elim⟩
theorem zz_bin {op : Operator} {f : D → D → R D} (ho : OpR X (binaryOp op) (rD X.K f)) (ha : CEx X P0 O W E00 a ma) (hb : CZ X P0 O W i ad b mb) : CZ X P0 O W i ad (.BinOp a op b pos) (cOp f ma mb) := PE.imp (pe_op ho ha hb) fun σ H Q ⟨z, ρ, S, h⟩ =>
  ⟨ρ, S, h.of_bind.mono fun ⟨h1, ρ1⟩ q x H1 S1 k1 r1 => ⟨z, ρ1, S1, (q.keep k1).of_bind.mono fun ⟨h2, ρ2⟩ q2 y H2 S2 k2 r2 => by
    obtain ⟨dx, e1, q3⟩ := q2.of_nox
    obtain ⟨dy, e2, q4⟩ := q3.of_nox
    obtain ⟨dz, e3, q5⟩ := q4.of_nox
    exact ⟨FA P0 O σ, dx, dy, dz, S2.dom, (r1.keep S1 k2).d S2 e1, r2.d S2 e2, e3, out_of S2 (k1.trans k2) q5⟩⟩⟩
def cBo (b : Bool) : BM := fun ρ => .ok (b, ρ)
theorem zt_isi {k : Bool} (h : CZ X P0 O W i ad e (cC (.bl k))) (he : ∀ whole, isTrue e X.env whole = (do let v ← whole; standAt e.pos; holding [v] (truthy v)) := by intro _; rfl) : PT X e (tZt X.K P0 O W i ad (cBo k)) := PT.imp (pt_truth h he) fun σ H Q ⟨z, ρ, S, q⟩ =>
  ⟨z, ρ, S, fun v H1 S1 k1 r1 => by
    exact ⟨k, truD_ok (d := .bl k) rfl (r1.d S1 rfl), q H1 S1 k1⟩⟩
theorem zt_not (h : PT X e (tZt X.K P0 O W i ad bm)) : PT X (.UnaryOp .Not e pos) (tZt X.K P0 O W i ad (cNotT bm)) := PT.imp (pt_not h) fun σ H Q ⟨z, ρ, S, h⟩ => ⟨z, ρ, S, h.of_bind.mono fun ⟨b, ρ1⟩ q => q⟩
theorem zt_or (h : PT X a (tZt X.K P0 O W i ad bm)) (h2 : CT X P0 O W E00 b bn) : PT X (.BoolOp .Or [a, b] pos) (tZt X.K P0 O W i ad (cOrT bm bn)) := PT.imp (PW.pt (pw_or h (pw_or1 h2))) fun σ H Q ⟨z, ρ, S, h⟩ =>
  ⟨z, ρ, S, h.of_bind.mono fun ⟨k, ρ1⟩ q H1 S1 k1 => by
    cases k with
    | false => exact ⟨ρ1, S1, (q.keep k1).mono fun ⟨k2, ρ2⟩ q2 H2 S2 k3 => q2 H2 S2 (k1.trans k3)⟩
    | true => exact q H1 S1 k1⟩
theorem zs_if {sts : List Stmt} {m : SM} (hc : PT X c (tZt X.K P0 O W i ad bm)) (h1 : CSs X P0 O W U E00 sts m) : PS X (.If c sts [] pos) (tZ X.K P0 O W U i ad (sIf bm m sSkip)) := PS.imp (ps_if hc h1 (cs_nil (U := U) (E := E00))) fun D σ H ⟨z, ρ, S, h⟩ =>
  ⟨z, ρ, S, (h.of_bind.down S.sub).mono fun ⟨k, ρ1⟩ q H1 S1 k1 => by
    have q : Res E00 O σ H ((if k = true then m ρ1 else sSkip ρ1)) _ := q
    cases k with
    | true => exact (if_pos rfl).mpr ⟨ρ1, S1, (Res.keepT q (Tr.of (U := U) S.sub k1)).mono fun ⟨f2, ρ2⟩ q2 σ2 H2 S2 t2 l2 => (q2 σ2 H2 S2 ((Tr.of S.sub k1).trans t2) l2).back fun b e => k1.some b e⟩
    | false => exact (if_neg Bool.false_ne_true).mpr ⟨ρ1, S1, (Res.keepT q (Tr.of (U := U) S.sub k1)).mono fun ⟨f2, ρ2⟩ q2 σ2 H2 S2 t2 l2 => (q2 σ2 H2 S2 ((Tr.of S.sub k1).trans t2) l2).back fun b e => k1.some b e⟩⟩
/-- isinstance(e, ValueError) -/
theorem cz_isv {C : Addr} {oe : Obj} {cn nm : Str} {cl : List Str} {p q q2 : Pos} (Z : ErrZ X.K X.mg cn) (F : IsV X.K X.mg cl) (hc : cn ∈ cl) (hC : X.mg cn = some (.ref C)) (hz : Zc (.ref C) none oe) (hf : ∃ vs, oe.data = .fields vs) (hp : (ad, oe) ∈ X.pn) (hm : X.mg "isinstance" = none)
    (hN : X.N[i]? = some nm := by rfl) (hv : Vis X.env.scope nm := by first | exact Or.inl rfl | exact Or.inr (Or.inl rfl)) (hd : (nm == ("__debug__" : Str)) = false := by decide) (hcd : (nm == ("__classdict__" : Str)) = false := by decide)
    (hg : Gl X "isinstance" := by rfl) (hg2 : Gl X "ValueError" := by rfl)
    (he : starEach [.Name nm q, .Name "ValueError" q2] X.env = (false, eval (.Name nm q) X.env) :: starEach [.Name "ValueError" q2] X.env := by rfl) (hpl : (backTo pos (starEach [.Name "ValueError" q2] X.env)).any (·.1) = false := by rfl) (he2 : starEach [.Name "ValueError" q2] X.env = (false, eval (.Name "ValueError" q2) X.env) :: starEach [] X.env := by rfl) :
    CZ X P0 O W i ad (.Call (.Name "isinstance" p) [.Name nm q, .Name "ValueError" q2] [] pos) (cC (.bl true)) := by
  obtain ⟨D, hD, zD⟩ := Z.ex
  rw [hC] at hD
  cases hD
  obtain ⟨D, hD, kv⟩ := F.ex cn hc
  rw [hC] at hD
  cases hD
  refine PE.imp (pe_callB (call_isP zD hz hf hp) hg hm bo_isinstance (pa_cons (pe_var (i := i) hN hv hd hcd) (pa_cons (pe_bltn hg2 F.no (by decide +kernel) (v := .ty "ValueError") rfl) pa_nil he2) he) (by decide) (by decide) he hpl) fun σ H Q ⟨e, ρ, S, q⟩ => ?_
  exact ⟨.ref ad, e, .ty "ValueError", .type "ValueError", true, rfl, fun u r => r, kv, q (.bl true) H S .refl ⟨by unfold Rep; rfl, fun z => by cases z⟩⟩
/-- f(e) -/
theorem cz_tell {oe : Obj} {cn nm name x : Str} {k : Nat} {cl : List Str} {kw : Str → Str} {C : Addr} {p q : Pos} (G : GloZ X.prog X.w X.K X.mg X.base name k x cl kw) (hr : L2H.RoomH k X.A) (hc : cn ∈ cl) (hC : X.mg cn = some (.ref C)) (hz : L2N.Zn (.ref C) none oe) (hf : ∃ vs, oe.data = .fields vs) (hh : X.A.handled = some (.ref ad)) (hp : (ad, oe) ∈ X.pn)
    (hN : X.N[i]? = some nm := by rfl) (hv : Vis X.env.scope nm := by first | exact Or.inl rfl | exact Or.inr (Or.inl rfl)) (hd : (nm == ("__debug__" : Str)) = false := by decide) (hcd : (nm == ("__classdict__" : Str)) = false := by decide) (hg : Gl X name := by rfl) (hdb : (name == ("__debug__" : Str)) = false := by decide)
    (he : starEach [.Name nm q] X.env = (false, eval (.Name nm q) X.env) :: starEach [] X.env := by rfl) (hpl : (backTo pos (starEach [] X.env)).any (·.1) = false := by rfl) : CZ X P0 O W i ad (.Call (.Name name p) [.Name nm q] [] pos) (cC (.str (kw cn))) := by
  obtain ⟨f, fd, hm, hk, hb, F⟩ := G.ex
  refine ⟨fun pins s σ H Q I ⟨e1, ρ, S, q⟩ => ?_⟩
  refine wpAny_Call_Name_kw (ld_glob I hg hm ?_ hdb)
  refine PySem.W.callWith_K (h₀ := X.base) I.ok.mod.kin hk (thn ((pa_cons (pe_var (i := i) hN hv hd hcd) pa_nil he).run pos pins s σ H (fun vs H1 => vs = [.ref ad] ∧ H1 = H) I ⟨.ref ad, e1, rfl, rfl⟩) fun us s1 ⟨vs, H1, I1, r, ev, eH⟩ => ⟨I1.kIn, ?_⟩) he hpl
  subst ev eH
  have eu := Vals.ref1 r
  subst eu
  have b := hb s1 [.ref ad] I1.kIn rfl
  rw [List.append_nil] at b
  obtain ⟨p1, p2, p3, p4, p5⟩ := I1.pin (ad, oe) (List.mem_append_left _ hp)
  refine wpAny_call (codeAny_mono ((F cn hc C hC).run X.A X.stack s1 H1 ⟨[.ref ad], []⟩ (.ref ad) Q E0 (ad, oe) hr (hot_of hh hz hf) ⟨p1, p2, fun hm => (List.mem_cons.mp (I1.stkSub ad hm)).elim p3 p4, p5⟩ hz I1.env0 b rfl fun H' sm => ?_) fun r s' hq => ?_)
  · exact q (.str (kw cn)) H' (S.same sm) (Keep.same sm) ⟨by unfold Rep; rfl, fun z => by cases z⟩
  · cases r with
    | error e => exact passN pins σ H1 s1 e s' I1 hq
    | ok fl =>
      cases fl with
      | ret u => exact I1.after hq
      | next => exact False.elim hq
      | brk => exact False.elim hq
      | cont => exact False.elim hq
end
end Y

set_option Elab.async false
set_option linter.all false
set_option maxRecDepth 100000
namespace Y
open PySem PySem.Spec PyProof.Rows L2
theorem _root_.L2H.RoomH.units {k : Nat} {A : Around} (r : L2H.RoomH k A) : A.units + 64 < cLine := by have := r.un; omega
/-- [int(x) for x in xs], xs a name -/
def cIntsH (i : Nat) : EM := fun ρ => do
  let d ← (look i ρ).nox
  match d with
  | .lst ds => (match blsOf ds with
    | some bs => pure (.fr (.lst (bs.map fun b => .int (if b then 1 else 0))), ρ)
    | none => .stk)
  | _ => .stk
theorem reps_i01 {K : PySem.W.Frag} {H : Hp} {P : Pr} : ∀ {bs : List Bool}, Reps K H (bs.map fun b => .int (if b then 1 else 0)) P (bs.map i01)
  | [] => Reps.nil
  | b :: bs => Reps.cons (by unfold Rep; rfl) reps_i01
section
variable {X : Cx} {P0 : Pr} {O W U : List Nat} {i j : Nat}
theorem ce_intsH {elt tgt : Expr} {x y : Str} {scope : Scope} {pos p : Pos} (hot : L2H.HotC X) (hN : X.N.Nodup) (ok : BlkOk X.N X.env.scope scope [(x, j)])
    (hg : ∀ (s : Shared) (H : Hp) (C : Addr) (cl : List (Str × Addr)) (fp : List Addr), PG (X.blk s H scope (compEnvC scope cl C X.env) fp) tgt (gName j))
    (he : ∀ (s : Shared) (H : Hp) (C : Addr) (cl : List (Str × Addr)) (fp : List Addr), PE (X.blk s H scope (compEnvC scope cl C X.env) fp) elt (tCB (fun xs H Q => (∃ i, xs = [.int i] ∧ Q (.int i) H) ∨ ∃ k, xs = [.bl k] ∧ Q (i01 k) H) (tCons (tVar j) tNil)))
    (ho : i ∉ O := by decide) (hi : X.N[i]? = some y := by rfl) (hv : Vis X.env.scope y := by first | exact Or.inl rfl | exact Or.inr (Or.inl rfl)) (hs : ∀ v, foldedSetIterable (.Name y p) X.env v = pure v := by intro _; rfl) (hd : (y == ("__debug__" : Str)) = false := by decide) (hcd : (y == ("__classdict__" : Str)) = false := by decide) :
    CEx X P0 O W E00 (.ListComp elt [⟨tgt, .Name y p, [], 0⟩] scope pos) (cIntsH i) := PE.imp (pe_intsH (i := i) hot hN ok hi hv hg he hs hd hcd) fun σ H Q ⟨ρ, S, h⟩ => by
  obtain ⟨d, e, h⟩ := h.of_nox
  obtain ⟨v, h1, h2⟩ := S.val i d (look_some e) ho
  cases d with
  | lst ds =>
    have h : Res E00 W σ H (match blsOf ds with | some bs => (R.ok (Hd.fr (.lst (bs.map fun b => .int (if b then 1 else 0))), ρ) : R (Hd × Env)) | none => .stk) _ := h
    cases c : blsOf ds with
    | none => rw [c] at h; exact h.elim
    | some bs =>
      rw [c] at h
      unfold Rep at h2
      obtain ⟨a, vs, rfl, n, g1, g2⟩ := h2
      obtain rfl := bls_rep c g2
      exact ⟨a, bs, h1, SqL.of g1, fun D hD => (out_of S .refl h).newL S.dom reps_i01 hD⟩
  | _ => exact h.elim
end
/-- the def, made ready -/
theorem gloZ_mk {P : Program} {w : World} {K : PySem.W.Frag} {mg : Str → Option Value} {base : Heap} {k n : Nat} {name x : Str} {st : Stmt} {N : List Str} {cl : List Str} {kw : Str → Str} {m : Str → SM} (F : Def K mg name st) (S : FnScope N [x] (defScope st))
    (hb : ∀ (cn : Str) (C : Addr) (f : Addr) (cdv : Value) (A : Around) (outer : List PySem.Env) (s : Shared) (H : Hp) (E : XK) (p : Addr × Obj), cn ∈ cl → mg cn = some (.ref C) → Zc (.ref C) none p.2 → (∃ vs, p.2.data = .fields vs) →
      L2H.HotC (L2H.cxH (L2N.CX P w) P w K mg base N name (defScope st) f cdv A outer s H E p) → L2H.RoomH k (A.deeper (envOfC name (defScope st) s.heap.objs.size f cdv)) → PSs (L2H.cxH (L2N.CX P w) P w K mg base N name (defScope st) f cdv A outer s H E p) (defBody st) (tZ K (fun _ => False) [] [] [0] 0 p.1 (m cn)))
    (hm : ∀ cn ∈ cl, ∃ ρ, m cn (List.replicate n none) = .ok (.rt (.vl (.str (kw cn))), ρ))
    (bi : ∀ (kV doc pm : Value) (an : Option Addr) (cdv ct : Value) (us : List Value), us.length = 1 → bindArgs (PySem.W.fnOf name name (defArgs st) (defBody st) (defScope st) .none kV doc pm an cdv ct) ⟨us, []⟩ = Pure.pure ([x].zip us)) (hn : N.length = n := by rfl) (h0 : 0 < n := by decide) : GloZ P w K mg base name (k + 1) x cl kw := by
  obtain ⟨f, fd, hmg, F⟩ := F.ex
  refine ⟨f, fd, hmg, F.kp, F.binds bi, fun cn hc C hC => ⟨fun A outer s H args u Q E p hr hot hpin hz e0 bt eu q => ?_⟩⟩
  rcases F.ex with ⟨_, _, _, _, _, _, cd, _, _, rfl, look, code⟩
  have KX : K.In s.heap := e0.mod.kin.keeps fun b o e => (e0.bs b o e).1
  have lim : s.heap.NoLimit := e0.mod.nolimit.keeps fun b o e => (e0.bs b o e).1
  have kd : ∀ y ∈ [x].zip [u], (defScope st).names.lookup y.1 = some .local ∨ ((defScope st).names.lookup y.1 = some .cell ∧ ((cellsFrom (s.heap.objs.size + 1) (defScope st).names []).lookup y.1).isSome = true) := fun ⟨n, v⟩ hy =>
    (S.par n (List.of_mem_zip hy).1).imp id fun q => ⟨q, PySem.W.cellsFrom_some _ _ _ (.inl q)⟩
  refine codeAny_call_function hr.depth (KX _ _ look) rfl S.co S.gen rfl (PySem.W.codeRec_of KX code) (bt _ _ _ _ (wpAny_newFunctionEnv_cells S.kind kd fun env he s1 xx => ?_))
  subst he
  refine ⟨lim.keeps xx.toInCall.keep, codeAny_func ?_⟩
  obtain ⟨vs, dv, _⟩ := hot.2
  have B := hb cn C f cd A outer s H E p hc hC hz.zc ⟨vs, dv⟩ ⟨p, hot, List.mem_cons_self⟩ (hr.deeper _)
  have ru : Vals [V.ref p.1] [u] := .cons eu .nil
  have I : Inv (L2H.cxH (L2N.CX P w) P w K mg base N name (defScope st) f cd A outer s H E p) [] (L2.start N [.ref p.1]) H s1 := L2H.inv_startH S hpin e0 rfl ru xx
  have lN : (L2.start N [V.ref p.1]).length = n := by
    have := S.pre
    unfold L2.start
    rw [List.length_append, List.length_map, List.length_replicate]
    simp only [List.length_singleton]
    omega
  have S0 : Sim K (fun _ => False) [] [] (List.replicate n none) (L2.start N [V.ref p.1]) H := by
    refine ⟨fun _ z => (nomatch z), by rw [lN, List.length_replicate]; exact Nat.le_refl _, fun b z => ?_, fun i d e => ?_, fun i d e => ?_, fun i j a hi => (nomatch hi), fun a z => ?_⟩
    · rcases z with z | ⟨i, hi, _⟩
      · exact z.elim
      · exact nomatch hi
    · rw [List.getElem?_replicate] at e
      split at e <;> cases e
    · rw [List.getElem?_replicate] at e
      split at e <;> cases e
    · obtain ⟨i, hi, _⟩ := z
      exact nomatch hi
  have s0 : (L2.start N [V.ref p.1])[0]? = some (some (.ref p.1)) := by
    unfold L2.start
    rfl
  obtain ⟨ρ, em⟩ := hm cn hc
  refine wpAny_mono (B.run [] s1 (L2.start N [.ref p.1]) H { nx := fun _ H' => Q .non H', rt := Q } I ⟨s0, _, S0, ?_⟩) (fun fl s' hs => ?_) fun e s' hs => hs
  · rw [em]
    intro σ' H' S' t' l' v r
    have rv : Rep K H' (.str (kw cn)) (FA (fun _ => False) [] σ') v := r
    unfold Rep at rv
    subst rv
    exact q H' fun b o e => t'.keep b o e fun ⟨i, hi, _⟩ => nomatch hi
  · cases fl with
    | ret u =>
      obtain ⟨v, σ', H', J, rv, qv⟩ := hs
      exact ⟨v, H', J.os, J.bare, J.base, J.hok, rv, qv⟩
    | next =>
      obtain ⟨σ', H', J, qv⟩ := hs
      exact ⟨V.non, H', J.os, J.bare, J.base, J.hok, rfl, qv⟩
    | brk => exact (show False from hs.choose_spec.choose_spec.2).elim
    | cont => exact (show False from hs.choose_spec.choose_spec.2).elim
theorem roomH_suite {j k : Nat} {A : Around} {h : Option Value} (r : Room k A) (l : j ≤ k := by decide) : L2H.RoomH j (A.mark h) := ⟨(r.mono l).dp, (r.mono l).un⟩
theorem mem_sub {a b : List Str} {c : Str} (m : c ∈ a) (h : (a.all fun x => decide (x ∈ b)) = true := by decide +kernel) : c ∈ b := of_decide_eq_true (List.all_eq_true.mp h c m)
def kindNs : List (Str × Str) := [("NoRule", "rule"), ("TooMany", "many"), ("NoOrder", "order"), ("NoStand", "stand"), ("NoSeen", "seen"), ("NoSwitch", "switch"), ("NoText", "text"), ("NoRow", "row"), ("NoFrame", "frame"), ("NoDen", "den"), ("NoHolds", "holds"), ("Hears", "hears")]
def kindW (c : Str) : Str := (kindNs.lookup c).getD "none of the classes"
def isB (x cn : Str) : EM := cC (.bl (isErr x cn))
def kindM (cn : Str) : SM :=
  sSeq (sAsg (cLst (cCons (isB "NoRule" cn) (cCons (isB "TooMany" cn) (cCons (isB "NoOrder" cn) (cCons (isB "NoStand" cn) cNil))))) (tmName 1))
  (sSeq (sAsg (cOp addD (cVar 1) (cLst (cCons (isB "NoSeen" cn) (cCons (isB "NoSwitch" cn) (cCons (isB "NoText" cn) (cCons (isB "NoRow" cn) cNil)))))) (tmName 1))
  (sSeq (sAsg (cOp addD (cVar 1) (cLst (cCons (isB "NoFrame" cn) (cCons (isB "NoDen" cn) (cCons (isB "NoHolds" cn) (cCons (isB "Hears" cn) cNil)))))) (tmName 1))
  (sSeq (sIf (cOrT (cNotT (cBo true)) (cBl (cOp neD (cCall sumD (cCons (cIntsH 1) cNil)) (cC (.int 1))))) (sRet (cC (.str "none of the classes"))) sSkip)
  (sSeq (sAsg (cLst (cCons (cC (.str "rule")) (cCons (cC (.str "many")) (cCons (cC (.str "order")) (cCons (cC (.str "stand")) (cCons (cC (.str "seen")) (cCons (cC (.str "switch")) (cCons (cC (.str "text")) (cCons (cC (.str "row")) (cCons (cC (.str "frame")) (cCons (cC (.str "den")) (cCons (cC (.str "holds")) (cCons (cC (.str "hears")) cNil))))))))))))) (tmName 2))
  (sRet (cIx (cVar 2) (cIndex (cVar 1) (cC (.bl true)))))))))
def kindE (cn : Str) : Env := [none, some (.lst (kindNs.map fun p => .bl (isErr p.1 cn))), some (.lst (kindNs.map fun p => .str p.2)), none]
theorem kind_all : ∀ cn ∈ kindNs.map (·.1), ∃ ρ, kindM cn (List.replicate 4 none) = .ok (.rt (.vl (.str (kindW cn))), ρ) := by
  intro cn hc
  simp only [kindNs, List.map_cons, List.map_nil, List.mem_cons, List.not_mem_nil, or_false] at hc
  rcases hc with rfl | rfl | rfl | rfl | rfl | rfl | rfl | rfl | rfl | rfl | rfl | rfl
  · exact ⟨kindE "NoRule", by kernel_rfl⟩
  · exact ⟨kindE "TooMany", by kernel_rfl⟩
  · exact ⟨kindE "NoOrder", by kernel_rfl⟩
  · exact ⟨kindE "NoStand", by kernel_rfl⟩
  · exact ⟨kindE "NoSeen", by kernel_rfl⟩
  · exact ⟨kindE "NoSwitch", by kernel_rfl⟩
  · exact ⟨kindE "NoText", by kernel_rfl⟩
  · exact ⟨kindE "NoRow", by kernel_rfl⟩
  · exact ⟨kindE "NoFrame", by kernel_rfl⟩
  · exact ⟨kindE "NoDen", by kernel_rfl⟩
  · exact ⟨kindE "NoHolds", by kernel_rfl⟩
  · exact ⟨kindE "Hears", by kernel_rfl⟩
end Y

set_option Elab.async false
set_option linter.all false
set_option maxRecDepth 100000
namespace Y
open PySem PySem.Spec PyProof.Rows L2
section
variable {K : PySem.W.Frag} {O W : List Nat} {a : Addr} {o : Obj}
end
section
variable {X : Cx} {P0 : Pr} {O W U : List Nat} {E : EK} {tg e : Expr} {ma : EM}
end
variable {ρ : Env}
end Y

set_option Elab.async false
set_option linter.all false
set_option maxRecDepth 100000
namespace Y
open PySem PySem.Spec PyProof.Rows L2
section
variable {prog : Program} {w : World} {A : Around} {E : Value → Shared → Prop}
end
section
variable {X : Cx}
end
end Y

set_option Elab.async false
set_option linter.all false
set_option maxRecDepth 100000
namespace Y
open PySem PySem.Spec PyProof.Rows L2
section
variable {prog : Program} {w : World} {A : Around} {E : Value → Shared → Prop} {s : Shared} {z TI TO T i1 i2 : Addr} {fp1 fp2 : List Addr} {n1 n2 i : Nat} {P1 P2 : Nat → Value → Prop} {St1 St2 : Nat → Heap → Prop} {f : Bool} {oT : Obj}
end
end Y

set_option Elab.async false
set_option linter.all false
set_option maxRecDepth 100000
namespace Y
open PySem PySem.Spec PyProof.Rows L2
section
variable {prog : Program} {w : World} {A : Around} {E : Value → Shared → Prop} {s : Shared}
end
section
variable {prog : Program} {w : World} {A : Around} {E : Value → Shared → Prop} {s : Shared} {R : Result → Shared → Prop} {z TI TO i1 i2 S : Addr} {fp1 fp2 : List Addr} {n1 n2 i : Nat} {P1 P2 : Nat → Value → Prop} {St1 St2 : Nat → Heap → Prop}
/-- i pairs are out -/
def ZSt (z TI TO i1 i2 S : Addr) (St1 St2 : Nat → Heap → Prop) (i : Nat) (h : Heap) : Prop := IsTupOf2 h TI (.ref i1) (.ref i2) ∧ St1 i h ∧ St2 i h ∧
  ((IsZip h z TI TO .none ∧ ∃ a b, IsTupOf2 h TO a b) ∨ ∃ T f oT, IsZipHeld h z TI TO T f ∧ h.get? T = some oT ∧ T ≠ z ∧ T ≠ i1 ∧ T ≠ i2 ∧ T ≠ S)
theorem ZSt.ty {h : Heap} (x : ZSt z TI TO i1 i2 S St1 St2 i h) : ∃ o, h.get? z = some o ∧ o.cls = .type "zip" := by
  rcases x.2.2.2 with ⟨e, _⟩ | ⟨T, f, oT, e, _⟩
  · exact ⟨_, e, rfl⟩
  · exact ⟨_, e, rfl⟩
theorem ZSt.stay (Sp : ZipSep2 z TI TO i1 i2 fp1 fp2) (D1 : Draws prog w A i1 fp1 n1 P1 St1) (D2 : Draws prog w A i2 fp2 n2 P2 St2) {h h' : Heap} (x : ZSt z TI TO i1 i2 S St1 St2 i h) (nz : S ≠ z) (nI : S ≠ TI) (nO : S ≠ TO) (n1' : S ∉ fp1) (n2' : S ∉ fp2)
    (k : ∀ b o, b ≠ S → h.get? b = some o → h'.get? b = some o) : ZSt z TI TO i1 i2 S St1 St2 i h' := by
  obtain ⟨a, b, c, d⟩ := x
  refine ⟨k _ _ nI.symm a, D1.frame _ _ _ b fun q hq o e => k q o (fun e2 => n1' (e2 ▸ hq)) e, D2.frame _ _ _ c fun q hq o e => k q o (fun e2 => n2' (e2 ▸ hq)) e, ?_⟩
  rcases d with ⟨d1, y1, y2, d2⟩ | ⟨T, f, oT, d1, d2, d3, d4, d5, d6⟩
  · exact .inl ⟨k _ _ nz.symm d1, y1, y2, k _ _ nO.symm d2⟩
  · exact .inr ⟨T, f, oT, k _ _ nz.symm d1, k _ _ d6 d2, d3, d4, d5, d6⟩
/-- the pairs that are out -/
structure ZG (P1 P2 : Nat → Value → Prop) (lo : Addr) (h : Heap) (as : List Addr) : Prop where
  rise : as.Pairwise (· < ·)
  above : ∀ a ∈ as, lo < a
  pairs : ∀ (j : Nat) (a : Addr), as[j]? = some a → ∃ x y, P1 j x ∧ P2 j y ∧ IsTupOf2 h a x y
theorem ZG.there {lo : Addr} {h : Heap} {as : List Addr} (g : ZG P1 P2 lo h as) {a : Addr} (ha : a ∈ as) : a < h.objs.size := by
  obtain ⟨j, hj⟩ := List.mem_iff_getElem?.mp ha
  obtain ⟨_, _, _, _, e⟩ := g.pairs j a hj
  exact Heap.lt_size e
end
end Y

set_option Elab.async false
set_option linter.all false
set_option maxRecDepth 100000
namespace Y
open PySem PySem.Spec PyProof.Rows L2
section
variable {X : Cx} {pins : List (Addr × Obj)} {σ : L2.St} {H : Hp} {s : Shared}
end
section
variable {X : Cx} {P0 : Pr} {O W : List Nat} {E : EK} {a b : Expr} {ms : AM} {pos : Pos}
end
variable {ρ : Y.Env}
end Y

set_option Elab.async false
set_option linter.all false
set_option maxRecDepth 100000
namespace Y
open PySem PySem.Spec PyProof.Rows L2
def maxSD : List D → R D
  | [d] => match seqI d with
    | some (n :: ms) => .ok (.int (maxI n ms))
    | _ => .stk
  | _ => .stk
def minSD : List D → R D
  | [d] => match seqI d with
    | some (n :: ms) => .ok (.int (minI n ms))
    | _ => .stk
  | _ => .stk
theorem alike_ints {ns : List Int} : PySem.W.AlikeAll (ns.map PyData.int) := ⟨fun x hx y hy => by
  obtain ⟨i, _, rfl⟩ := List.mem_map.mp hx
  obtain ⟨j, _, rfl⟩ := List.mem_map.mp hy
  simp [PySem.W.alike], fun x hx z => by
  obtain ⟨i, _, rfl⟩ := List.mem_map.mp hx
  cases z⟩
section
variable {X : Cx}
end
theorem d_maxS {d : D} {n : Int} {ms : List Int} (h : seqI d = some (n :: ms)) : maxSD [d] = .ok (.int (maxI n ms)) := by
  show (match seqI d with | some (n :: ms) => R.ok (D.int (maxI n ms)) | _ => .stk) = _
  rw [h]
theorem d_minS {d : D} {n : Int} {ms : List Int} (h : seqI d = some (n :: ms)) : minSD [d] = .ok (.int (minI n ms)) := by
  show (match seqI d with | some (n :: ms) => R.ok (D.int (minI n ms)) | _ => .stk) = _
  rw [h]
end Y

set_option Elab.async false
set_option linter.all false
set_option maxRecDepth 100000
namespace Y
open PySem PySem.Spec PyProof.Rows L2
section
variable {κ : Type} [DecidableEq κ]
end
section
variable {X : Cx} {pins : List (Addr × Obj)} {σ : L2.St} {H : Hp} {s : Shared}
end
end Y

set_option Elab.async false
set_option linter.all false
set_option maxRecDepth 100000
namespace Y
open PySem PySem.Spec PyProof.Rows L2
def RT (H : Hp) (kvs : List (List Key × V)) (ps : List (V × V)) : Prop := Paired (fun (p : List Key × V) (q : V × V) => p.2 = q.2 ∧ ∃ b, q.1 = .ref b ∧ H b = some (.tup (p.1.map kV))) kvs ps
section
variable {X : Cx} {pins : List (Addr × Obj)} {σ : L2.St} {H : Hp} {s : Shared}
end
section
variable {X : Cx} {P0 : Pr} {O W : List Nat} {E : EK} {a b : Expr} {ms : AM} {pos : Pos}
end
variable {ρ : Y.Env}
end Y

set_option Elab.async false
set_option linter.all false
set_option maxRecDepth 100000
namespace Y
open PySem PySem.Spec PyProof.Rows L2
section
variable {X : Cx} {P0 : Pr} {O W U : List Nat} {E : EK} {e : Expr} {ma : EM} {K : PySem.W.Frag} {pos : Pos}
end
variable {ρ : Y.Env}
end Y

set_option Elab.async false
set_option linter.all false
set_option maxRecDepth 100000
namespace Y
open PySem PySem.Spec PyProof.Rows L2
def cNox (m : EM) : EM := fun ρ => (m ρ).nox
section
variable {K : PySem.W.Frag} {O W : List Nat} {a : Addr} {o : Obj}
end
section
variable {K : PySem.W.Frag} {P0 : Pr} {O W : List Nat} {E : EK} {ρ : Y.Env} {σ : L2.St} {H : Hp} {m : EM} {Q : VK} {a : Addr} {u : HO}
theorem tM_lock (S : Sim K P0 O W ρ σ H) {x : Hd × Y.Env} (e : m ρ = .ok x) (h : ∀ v H', Sim K P0 O W x.2 σ H' → Keep W σ H H' → HdR K P0 O H σ H' x.1 v → Q v H') (hu : DicU u) (ha : H a = some u) (n : ¬ FA P0 O σ a) (od : Obj) :
    tM K P0 O W E m σ (upd H a (.frz od u)) fun v H' => H' a = some (.frz od u) ∧ Q v (upd H' a u) := by
  have S1 : Sim K P0 O W ρ σ (upd H a (.frz od u)) := S.rd hu (fun b h => upd_ne h) (.inl ha) (.inr ⟨od, upd_same⟩) n
  refine ⟨ρ, S1, ?_⟩
  rw [e]
  intro v H' S' t r
  have fr : H' a = some (.frz od u) := t.keep a _ upd_same fun z => n (.inr (S.oaw z))
  have k : ∀ b, b ≠ a → upd H' a u b = H' b := fun b h => upd_ne h
  have r1 : Rd H' a u := .inr ⟨od, fr⟩
  have r2 : Rd (upd H' a u) a u := .inl upd_same
  have S2 : Sim K P0 O W x.2 σ (upd H' a u) := S'.rd hu k r1 r2 n
  have t2 : Keep W σ H (upd H' a u) := ⟨fun b o e1 e2 => by
      by_cases hb : b = a
      · rw [hb] at e1 ⊢; rw [upd_same, ← ha, e1]
      · rw [upd_ne hb]; exact t.keep b o (by rw [upd_ne hb]; exact e1) e2, fun b e1 => by
      by_cases hb : b = a
      · rw [hb, upd_same]; intro z; cases z
      · rw [upd_ne hb]; exact t.some b (by rw [upd_ne hb]; exact e1)⟩
  refine ⟨fr, h v _ S2 t2 ?_⟩
  obtain ⟨hd, ρ'⟩ := x
  cases hd with
  | fr d => exact ⟨r.1.rd hu k r1 r2, fun m b e => by
      have := r.2 m b e
      by_cases hb : b = a
      · rw [hb, upd_same] at this; cases this
      · rw [upd_ne hb] at this; exact this⟩
  | vl d => exact Rep.rd hu k r1 r2 r
  | ow i => exact r
end
section
variable {X : Cx} {P0 : Pr} {O W : List Nat} {E : EK} {tg : Expr} {pos : Pos}
theorem PE.or' {e : Expr} {t t' : TE} (h : PE X e t) (h' : PE X e t') : PE X e fun σ H Q => t σ H Q ∨ t' σ H Q :=
  ⟨fun pins s σ H Q I q => q.elim (h.run pins s σ H Q I) (h'.run pins s σ H Q I)⟩
end
variable {ρ : Y.Env}
@[simp] theorem e_cNox {m : EM} : cNox m ρ = (m ρ).nox := id rfl
end Y

set_option Elab.async false
set_option linter.all false
set_option maxRecDepth 100000
namespace Y.HR
open PySem PySem.Spec PyProof.Rows L2 _root_.HT PySem.W PySem.SeqAt PySem.AutoSeq1 PySem.MeetsSeq PySem.MeetsSeq2 PySem.MeetsSeq3
section
variable {prog : Program} {w : World} {A : Around} {E : Value → Shared → Prop} {s : Shared}
end
end Y.HR
namespace Y
open PySem PySem.Spec PyProof.Rows L2
section
variable {X : Cx} {e k : Expr} {te : TE} {p2 pos : Pos}
end
section
variable {X : Cx} {P0 : Pr} {O W : List Nat} {E : EK} {e k : Expr} {ma : EM} {mk : OM} {p2 pos : Pos}
end
variable {ρ : Y.Env}
end Y

set_option Elab.async false
set_option linter.all false
set_option maxRecDepth 100000
namespace Y
open PySem PySem.Spec PyProof.Rows L2
def gLstT (K : PySem.W.Frag) (n : Nat) (t : TGs) : TG := fun v σ H Q => ∃ a xs, v = .ref a ∧ SqL K H a xs ∧ xs.length = n ∧ t xs σ H Q
section
variable {X : Cx} {P0 : Pr} {O W : List Nat} {pos : Pos}
theorem pg_lst {es : List Expr} {k : Nat} {t : TGs} {n : Nat} (hc : X.calm = true) (h : PGs X es t)
    (hn : (assignEach es X.env).length = n := by rfl) (hst : (assignEach es X.env).findIdx? (·.1) = none := by rfl) : PG X (.Tuple es k pos) (gLstT X.K n t) := by
  refine ⟨fun pins s σ H v u Q I r hw => ?_⟩
  obtain ⟨a, xs, e1, hq, hl, hw⟩ := hw
  subst e1
  cases r
  obtain ⟨its, rv, ht, hz⟩ := I.list hq
  rw [assign_Tuple]
  refine wpAny_bind (wpAny_standAt ?_)
  unfold unpack
  rw [hn, hst]
  have e : n = its.toArray.size := by simp [← hl, rv.length]
  rw [e]
  refine wpAny_bind (wpAny_holding (PySem.W.kun_itemsOf (I.ok.hd hc) ht.isList fun h' hx => ?_))
  have I1 : Inv X pins σ H { s with heap := h' } := I.kept (t' := s.toks) fun b o e => hx b o (Nat.ne_of_lt (Heap.lt_size e)) e
  exact h.run pins _ σ H xs _ Q I1 (by simpa using rv) hw
def tmLst (is : List Nat) : GM := fun d ρ => match d with
  | .lst ds => if ds.length = is.length then .ok (setAll ρ is ds) else .stk
  | _ => .stk
@[simp] theorem e_tmL {is : List Nat} {ds : List D} {ρ : Y.Env} : tmLst is (.lst ds) ρ = if ds.length = is.length then .ok (setAll ρ is ds) else .stk := id rfl
theorem cg_lst {es : List Expr} {k : Nat} (is : List Nat) (hc : X.calm = true) (h : PGs X es (gNames is)) (ho : ∀ i ∈ is, i ∉ O := by decide) (hst : (assignEach es X.env).findIdx? (·.1) = none := by rfl) (hn : (assignEach es X.env).length = is.length := by rfl) : CG X P0 O W (.Tuple es k pos) (tmLst is) is :=
  PG.imp (pg_lst hc h hn hst) fun v σ H Q ⟨ρ, d, ρ', S, r, e, q⟩ => by
    unfold tmLst at e
    split at e
    · split at e
      · rename_i hl; cases e
        unfold Rep at r
        obtain ⟨a, vs, rfl, hp, h1, h2⟩ := r
        have h2 : Reps X.K H _ (FA P0 O σ) vs := h2.less (fun b z => by
          rcases z with z | z
          · exact S.dom b z
          · subst z; rw [h1]; exact trivial) fun b z => .inl z
        exact ⟨a, vs, rfl, SqL.of h1, by rw [h2.length, hl], names_ok ho hl S h2 q⟩
      · cases e
    · cases e
end
end Y

set_option Elab.async false
set_option linter.all false
set_option maxRecDepth 100000
namespace Y
open PySem PySem.Spec PyProof.Rows L2
section
variable {X : Cx} {P0 : Pr} {O W : List Nat} {E : EK} {a : Expr} {ma : EM} {pos : Pos}
end
variable {ρ : Y.Env}
end Y

set_option Elab.async false
set_option linter.all false
set_option maxRecDepth 100000
namespace Y
open PySem PySem.Spec PyProof.Rows L2
section
variable {X : Cx}
end
end Y

set_option Elab.async false
set_option linter.all false
set_option maxRecDepth 100000
namespace Y
open PySem PySem.Spec PyProof.Rows L2
section
variable {K : PySem.W.Frag} {P0 : Pr} {O W U : List Nat} {ρ : Y.Env} {σ : L2.St} {H : Hp} {i : Nat}
end
section
variable {X : Cx} {P0 : Pr} {O W U : List Nat} {E : EK} {st2 : Stmt} {sts : List Stmt} {m mr : SM}
end
end Y

set_option Elab.async false
set_option linter.all false
set_option maxRecDepth 100000
namespace Y
open PySem PySem.Spec PyProof.Rows L2
def setdRes (i : Nat) (x k d : D) (ρ : Y.Env) : R (Hd × Y.Env) := match x, k with
  | .dit ks ds, .tup ys => match keysOf ys with
    | some k => if szOk (ks.length + 1) = true then (match findD ks ds k with
      | some z => .ok (.vl z, ρ)
      | none => .ok (.vl d, ρ.set i (some (.dit (putKs ks k) (putDs ks ds k d))))) else .stk
    | none => .stk
  | _, _ => .stk
def cSetD (i : Nat) (mk mv : EM) : EM := fun ρ => do
  let _ ← (dicAt i ρ).nox
  let (h, ρ1) ← mk ρ
  let k ← h.v.nox
  let (h2, ρ2) ← mv ρ1
  let d ← h2.v.nox
  let x ← (dicAt i ρ2).nox
  setdRes i x k d ρ2
section
variable {X : Cx} {P0 : Pr} {O W : List Nat} {E : EK} {e f : Expr} {mk mv : EM}
theorem dicAt_isD {K : PySem.W.Frag} {ρ : Y.Env} {σ : L2.St} {H : Hp} (S : Sim K P0 O W ρ σ H) {i : Nat} {x : D} (hi : i ∈ O) (h : dicAt i ρ = .ok x) : ∃ a, σ[i]? = some (some (.ref a)) ∧ IsD H a := by
  have q := dicAt_ok h
  obtain ⟨v, h1, h2⟩ := S.own i x q hi
  cases x with
  | dik ks ds => obtain ⟨a, vs, rfl, _, r, _⟩ := h2; exact ⟨a, h1, .inl ⟨_, .inl r⟩⟩
  | dit ks ds => obtain ⟨a, vs, rfl, _, r, _⟩ := h2; exact ⟨a, h1, .inr ⟨_, .inl r⟩⟩
  | _ => unfold dicAt at h; rw [q] at h; cases h
theorem tM_setd {i : Nat} (hi : i ∈ O) (hw : i ∈ W) (σ : St) (H : Hp) (Q : VK) (h : tM X.K P0 O W E (cSetD i mk mv) σ H Q) : tDSetdT (tVar i) (tM X.K P0 O W E mk) (tM X.K P0 O W E mv) σ H Q := by
  obtain ⟨ρ, S, h⟩ := h
  obtain ⟨x0, e0, h⟩ := h.of_nox
  obtain ⟨l, h1, dl⟩ := dicAt_isD S hi e0
  refine ⟨.ref l, h1, l, rfl, dl, ρ, S, h.of_bind.mono fun ⟨hk, ρ1⟩ q w H1 S1 k1 r1 => ?_⟩
  obtain ⟨dk, e1, q⟩ := q.of_nox
  have rk1 := r1.v e1
  refine ⟨ρ1, S1, (Res.keep q k1).of_bind.mono fun ⟨hv, ρ2⟩ q2 v H2 S2 k2 r2 => ?_⟩
  obtain ⟨d, e2, q2⟩ := q2.of_nox
  obtain ⟨x1, e3, q2⟩ := Res.of_nox (show Res E W σ H1 ((dicAt i ρ2).nox >>= _) _ from q2)
  have q2 : Res E W σ H1 (setdRes i x1 dk d ρ2) _ := q2
  have rk := S1.rep k2 rk1
  have rv := r2.v e2
  obtain ⟨v1, g1, g2⟩ := S2.own i x1 (dicAt_ok e3) hi
  rw [h1] at g1
  cases g1
  have pa : FA P0 O σ l := .inr ⟨i, hi, h1⟩
  have up : ∀ (o : HO) b u, H2 b = some u → ¬ FA P0 O σ b → upd H2 l o b = some u := fun o b u e n => by rw [upd_ne fun z => n (by rw [z]; exact pa)]; exact e
  obtain ⟨ks, ds, ys, rfl, rfl⟩ : ∃ ks ds ys, x1 = .dit ks ds ∧ dk = .tup ys := by
    clear e1 e3 rk rk1 g2 up rv
    cases x1 <;> cases dk <;> first | exact q2.elim | exact ⟨_, _, _, rfl, rfl⟩
  · unfold setdRes at q2
    simp only at q2
    obtain ⟨a, vs, ea, hl, hH, rs⟩ := g2
    cases ea
    cases qk : keysOf ys with
    | none => rw [qk] at q2; exact q2.elim
    | some kk =>
      rw [qk] at q2
      simp only at q2
      by_cases c : szOk (ks.length + 1) = true
      · rw [if_pos c] at q2
        have c := of_decide_eq_true c
        have e24 : sizeLine = 16777216 := by decide
        unfold Rep at rk
        obtain ⟨b, us, rfl, b1, b2⟩ := rk
        have eu := keysOf_rep b2 qk
        subst eu
        obtain ⟨f1, f2⟩ := findD_rep (k := kk) rs hl
        refine ⟨ks.zip vs, kk, b, hH, rfl, b1, by rw [List.length_zip, ← hl, Nat.min_self]; omega, fun v0 hv0 => ?_, fun hn => ?_⟩
        · cases qf : findD ks ds kk with
          | none => rw [f2 qf] at hv0; cases hv0
          | some z =>
            rw [qf] at q2
            obtain ⟨v', w1, w2⟩ := f1 z qf
            rw [w1] at hv0
            cases hv0
            exact q2 _ H2 S2 (k1.trans k2) w2
        · cases qf : findD ks ds kk with
          | some z =>
            obtain ⟨v', w1, w2⟩ := f1 z qf
            rw [w1] at hn
            cases hn
          | none =>
            rw [qf] at q2
            obtain ⟨pz, pl⟩ := put_zip (k := kk) (v := v) hl
            rw [pz]
            exact q2 v _ (S2.ownW hi h1 trivial ⟨l, _, rfl, pl, upd_same, (put_reps rv rs hl).mono _ S2.dom (up _) fun b z => .inl z⟩) ((k1.trans k2).ownW hw h1) (rv.mono d S2.dom (up _) fun b z => .inl z)
      · rw [if_neg c] at q2; exact q2.elim
theorem ce_setd {i : Nat} {x : Str} {p ap cp : Pos} (hu : X.A.units + 1 < cLine) (h : CEx X P0 O W E e mk) (h2 : CEx X P0 O W E f mv) (hi : i ∈ O := by decide) (hw : i ∈ W := by decide) (hx : X.N[i]? = some x := by rfl) (hv : Vis X.env.scope x := by first | exact Or.inl rfl | exact Or.inr (Or.inl rfl) | exact Or.inr (Or.inr rfl)) (hd : (x == ("__debug__" : Str)) = false := by decide) (hcd : (x == ("__classdict__" : Str)) = false := by decide)
    (m : M2 X (.Name x p) "setdefault" ap e f cp := by exact ⟨rfl, rfl, rfl, rfl⟩) : CEx X P0 O W E (.Call (.Attribute (.Name x p) "setdefault" ap) [e, f] [] cp) (cSetD i mk mv) :=
  PE.imp (pe_dsetdT hu (pe_var (i := i) hx hv hd hcd) h h2 m) (tM_setd hi hw)
end
variable {ρ : Y.Env}
@[simp] theorem e_setd {i : Nat} {mk mv : EM} : cSetD i mk mv ρ = ((dicAt i ρ).nox >>= fun _ => mk ρ >>= fun p => p.1.v.nox >>= fun k => mv p.2 >>= fun q => q.1.v.nox >>= fun d => (dicAt i q.2).nox >>= fun x => setdRes i x k d q.2) := by
  unfold cSetD; congr
end Y

set_option Elab.async false
set_option linter.all false
set_option maxRecDepth 100000
namespace Y
open PySem PySem.Spec PyProof.Rows L2
section
variable {prog : Program} {w : World} {d r : Addr} {es : Array DictEntry} {ep : Nat}
end
section
variable {X : Cx} {o : Expr} {td : TE} {p pos apos mpos : Pos}
end
section
variable {X : Cx} {P0 : Pr} {O W : List Nat} {E : EK}
end
variable {ρ : Y.Env}
end Y

set_option Elab.async false
set_option linter.all false
set_option maxRecDepth 100000
namespace Y
open PySem PySem.Spec PyProof.Rows L2
end Y

set_option Elab.async false
set_option linter.all false
set_option maxRecDepth 100000
namespace Y
open PySem PySem.Spec PyProof.Rows L2
section
variable {K : PySem.W.Frag} {P0 : Pr} {O W U : List Nat} {ρ : Y.Env} {σ : L2.St} {H : Hp} {i : Nat}
theorem Sim.openD (S : Sim K P0 O W ρ σ H) {p : Addr} {d : D} {o : HO} (hi : i ∉ O) (hl : i < ρ.length) (hp : H p = none) (ho : isMut (some o)) (r : ∀ P, RepO K (upd H p o) d P (.ref p)) : Sim K P0 (i :: O) (i :: W) (ρ.set i (some d)) (σ.set i (some (.ref p))) (upd H p o) := by
  have hs : i < σ.length := Nat.lt_of_lt_of_le hl S.len
  have np : ¬ FA P0 O σ p := fun z => by have := S.dom p z; rw [hp] at this; exact this
  have gs : ∀ {j : Nat} {b : Addr}, j ∈ i :: O → (σ.set i (some (V.ref p)))[j]? = some (some (.ref b)) → (j = i ∧ b = p) ∨ (j ∈ O ∧ j ≠ i ∧ σ[j]? = some (some (.ref b))) := fun {j b} hj e => by
    by_cases hij : i = j
    · subst hij
      rw [List.getElem?_set_self hs] at e
      cases e
      exact .inl ⟨rfl, rfl⟩
    · rw [List.getElem?_set_ne hij] at e
      exact .inr ⟨(List.mem_cons.mp hj).resolve_left fun z => hij z.symm, fun z => hij z.symm, e⟩
  have fa : ∀ b, FA P0 (i :: O) (σ.set i (some (V.ref p))) b → FA P0 O σ b ∨ b = p := fun b z => by
    rcases z with z | ⟨j, hj, e⟩
    · exact .inl (.inl z)
    · rcases gs hj e with ⟨_, e⟩ | ⟨h1, _, h2⟩
      · exact .inr e
      · exact .inl (.inr ⟨j, h1, h2⟩)
  have sm : Same H (upd H p o) := Same.new hp
  refine ⟨fun j hj => ?_, by simpa using S.len, fun b z => ?_, fun j d' e n => ?_, fun j d' e n => ?_, fun j k a hj hk e1 e2 => ?_, fun a z hz => ?_⟩
  · rcases List.mem_cons.mp hj with rfl | hj
    · simp
    · exact List.mem_cons_of_mem _ (S.sub j hj)
  · by_cases hb : b = p
    · rw [hb, upd_same]; exact ho
    · rw [upd_ne hb]
      rcases fa b z with z | z
      · exact S.dom b z
      · exact absurd z hb
  · have hij : i ≠ j := fun z => n (by simp [z])
    rw [List.getElem?_set_ne hij] at e ⊢
    obtain ⟨v, h1, h2⟩ := S.val j d' e fun z => n (List.mem_cons_of_mem _ z)
    exact ⟨v, h1, h2.mono d' S.dom (fun b o e _ => sm b o e) fun b z => (fa b z).imp id fun e => by rw [e]; exact hp⟩
  · by_cases hij : i = j
    · subst hij
      rw [List.getElem?_set_self hl] at e
      cases e
      exact ⟨_, List.getElem?_set_self hs, r _⟩
    · rw [List.getElem?_set_ne hij] at e ⊢
      obtain ⟨v, h1, h2⟩ := S.own j d' e ((List.mem_cons.mp n).resolve_left fun z => hij z.symm)
      exact ⟨v, h1, h2.mono S.dom (fun b o e _ => sm b o e) (fun b z => (fa b z).imp id fun e => by rw [e]; exact hp) fun a o _ e => sm a o e⟩
  · rcases gs hj e1 with ⟨a1, a2⟩ | ⟨a1, a2, a3⟩
    · rcases gs hk e2 with ⟨b1, b2⟩ | ⟨b1, b2, b3⟩
      · rw [a1, b1]
      · exact absurd (.inr ⟨k, b1, by rw [← a2]; exact b3⟩) np
    · rcases gs hk e2 with ⟨b1, b2⟩ | ⟨b1, b2, b3⟩
      · exact absurd (.inr ⟨j, a1, by rw [← b2]; exact a3⟩) np
      · exact S.sep j k a a1 b1 a3 b3
  · obtain ⟨j, hj, e⟩ := z
    rcases gs hj e with ⟨_, e⟩ | ⟨h1, _, h2⟩
    · exact np (.inl (by rw [← e]; exact hz))
    · exact S.sep0 a ⟨j, h1, h2⟩ hz
theorem Sim.shutD (S : Sim K P0 (i :: O) (i :: W) ρ σ H) {ks : List (List Key)} {ds : List D} (hW : ∀ j ∈ W, j ∈ O) (hi : i ∉ O) (hρ : ρ[i]? = some (some (.dit ks ds))) : Sim K P0 O W ρ σ H := by
  obtain ⟨v, ha, a, vs, rfl, hl, hH, hr⟩ := S.own i _ hρ (by simp)
  have fa : ∀ b, FA P0 O σ b → FA P0 (i :: O) σ b := fun b z => by
    rcases z with z | ⟨j, hj, e⟩
    · exact .inl z
    · exact .inr ⟨j, List.mem_cons_of_mem _ hj, e⟩
  have oa : OA (i :: O) σ a := ⟨i, by simp, ha⟩
  have na : ¬ FA P0 O σ a := fun z => by
    rcases z with z | ⟨j, hj, e⟩
    · exact S.sep0 a oa z
    · exact hi (by rw [← S.sep j i a (List.mem_cons_of_mem _ hj) (by simp) e ha]; exact hj)
  refine ⟨hW, S.len, fun b z => S.dom b (fa b z), fun j d e n => ?_, fun j d e n => ?_, fun j k b hj hk e1 e2 => ?_, fun b z => ?_⟩
  · by_cases hij : i = j
    · subst hij
      rw [hρ] at e
      cases e
      refine ⟨_, ha, ?_⟩
      unfold Rep
      exact ⟨a, vs, rfl, na, hl, .inl hH, hr.less S.dom fun b z => z.elim (fa b) fun z => .inr (by rw [z]; exact oa)⟩
    · obtain ⟨v, h1, h2⟩ := S.val j d e fun z => (List.mem_cons.mp z).elim (fun q => hij q.symm) n
      exact ⟨v, h1, h2.less S.dom fa⟩
  · obtain ⟨v, h1, h2⟩ := S.own j d e (List.mem_cons_of_mem _ n)
    exact ⟨v, h1, h2.less2 S.dom fa⟩
  · exact S.sep j k b (List.mem_cons_of_mem _ hj) (List.mem_cons_of_mem _ hk) e1 e2
  · obtain ⟨j, hj, e⟩ := z
    exact S.sep0 b ⟨j, List.mem_cons_of_mem _ hj, e⟩
end
def ditAt (i : Nat) (ρ : Y.Env) : R Unit := match ρ[i]? with
  | some (some (.dit _ _)) => .ok ()
  | _ => .stk
def sGrowD (i : Nat) (m mr : SM) : SM := fun ρ =>
  if i < ρ.length then do
    let (f, ρ2) ← m (ρ.set i (some (.dit [] [])))
    match f with
    | .nx => do
      let _ ← (ditAt i ρ2).nox
      mr ρ2
    | _ => .stk
  else .stk
section
variable {X : Cx} {P0 : Pr} {O W U : List Nat} {E : EK} {st2 : Stmt} {sts : List Stmt} {m mr : SM}
theorem cs_growD {i : Nat} {x : Str} {p1 p2 p3 : Pos} (hN : X.N.Nodup) (h2 : CS X P0 (i :: O) (i :: W) U E st2 m) (h3 : CSs X P0 O W U E sts mr) (hW : ∀ j ∈ W, j ∈ O := by decide) (hi : i ∉ O := by decide) (hu : i ∉ U := by decide)
    (hx : X.N[i]? = some x := by rfl) (hl : Loc X.env.scope x := by first | exact Or.inl rfl | exact Or.inr rfl)
    (hf : X.fn x = true ∨ X.env.scope.names.lookup x = some .local := by first | exact .inl rfl | exact .inr rfl)
    (hs : swapsWithSole [.Name x p1] (.Dict [] [] p2) p3.line X.env = pure false := by rfl) (hw : swappedStores [.Name x p1] (.Dict [] [] p2) X.env = pure none := by rfl) :
    CSs X P0 O W U E (.Assign [.Name x p1] (.Dict [] [] p2) p3 :: st2 :: sts) (sGrowD i m mr) :=
  PSs.imp (pss_cons (ps_asg pe_dnewT (pg_name hN hx hl hf) hs hw) (pss_cons h2 h3)) fun D σ H ⟨ρ, S, h⟩ => by
    have h : Res E O σ H (if i < ρ.length then (m (ρ.set i (some (.dit [] []))) >>= fun q => match q.1 with | .nx => ((ditAt i q.2).nox >>= fun _ => mr q.2) | _ => .stk) else .stk) _ := h
    by_cases hlen : i < ρ.length
    · rw [if_pos hlen] at h
      refine fun p hp => ?_
      have S1 := S.openD (i := i) (d := .dit [] []) (o := .dT []) hi hlen hp trivial fun P => ⟨p, [], rfl, rfl, upd_same, Reps.nil⟩
      have hs1 : i < σ.length := Nat.lt_of_lt_of_le hlen S.len
      have o1 : ∀ {b : Addr}, OA (i :: O) (σ.set i (some (V.ref p))) b → OA O σ b ∨ b = p := fun {b} ⟨j, hj, e⟩ => by
        by_cases hij : i = j
        · subst hij
          rw [List.getElem?_set_self hs1] at e
          cases e
          exact .inr rfl
        · rw [List.getElem?_set_ne hij] at e
          exact .inl ⟨j, (List.mem_cons.mp hj).resolve_left fun q => hij q.symm, e⟩
      have np : ∀ {b : Addr} {o : HO}, H b = some o → b ≠ p := fun e q => by rw [q, hp] at e; cases e
      refine ⟨ρ.set i (some (.dit [] [])), S1, ?_⟩
      have h0 := h.of_bind
      have h1 := h0.chg (O1 := i :: O) (σ1 := σ.set i (some (V.ref p))) (H1 := upd H p (.dT [])) fun H' k => ⟨fun b o e n => k.keep b o (by rw [upd_ne (np e)]; exact e) fun q => (o1 q).elim n fun q => np e q, fun b e => k.some b (by
        by_cases hb : b = p
        · rw [hb, upd_same]; intro q; cases q
        · rw [upd_ne hb]; exact e)⟩
      refine h1.mono fun ⟨f, ρ2⟩ q σ2 H2 S2 t2 l2 => ?_
      cases f with
      | bk => exact q.elim
      | ct => exact q.elim
      | rt hd => exact q.elim
      | nx =>
        obtain ⟨_, e1, q⟩ := Res.of_nox (show Res E O σ H ((ditAt i ρ2).nox >>= fun _ => mr ρ2) _ from q)
        obtain ⟨ks, ds, e2⟩ : ∃ ks ds, ρ2[i]? = some (some (.dit ks ds)) := by
          unfold ditAt at e1
          split at e1
          · exact ⟨_, _, by assumption⟩
          · cases e1
        have S3 := S2.shutD hW hi e2
        have t3 : Tr O U σ H σ2 H2 := by
          refine ⟨fun b o e n => ?_, fun b e => ?_, fun b ⟨j, hj, e⟩ => ?_, fun j hj => ?_⟩
          · exact t2.keep b o (by rw [upd_ne (np e)]; exact e) fun q => (o1 q).elim n fun q => np e q
          · refine t2.some b ?_
            by_cases hb : b = p
            · rw [hb, upd_same]; intro q; cases q
            · rw [upd_ne hb]; exact e
          · rcases t2.own b ⟨j, List.mem_cons_of_mem _ hj, e⟩ with z | z
            · rcases o1 z with z | z
              · exact .inl z
              · exact .inr (by rw [z]; exact hp)
            · refine .inr ?_
              by_cases hb : b = p
              · rw [hb]; exact hp
              · rw [upd_ne hb] at z; exact z
          · rw [t2.unch j hj, List.getElem?_set_ne fun q => hu (by rw [q]; exact hj)]
        have l3 : σ2.length = σ.length := by rw [l2, List.length_set]
        refine ⟨ρ2, S3, (Res.keepT q t3).mono fun ⟨f2, ρ3⟩ q2 σ3 H3 S4 t4 l4 => ?_⟩
        have q3 := q2 σ3 H3 S4 (t3.trans t4) (l4.trans l3)
        cases f2 with
        | nx => exact q3
        | bk => exact q3
        | ct => exact q3
        | rt hd => exact fun v r => q3 v (r.back t3.some)
    · rw [if_neg hlen] at h
      exact h.elim
end
@[simp] theorem e_growD {i : Nat} {m mr : SM} {ρ : Y.Env} : sGrowD i m mr ρ = if i < ρ.length then (m (ρ.set i (some (.dit [] []))) >>= fun q => match q.1 with | .nx => ((ditAt i q.2).nox >>= fun _ => mr q.2) | _ => .stk) else .stk := id rfl
def listKD : List D → R D
  | [.dit ks _] => .ok (.lst (ks.map fun k => .tup (k.map keyD)))
  | _ => .stk
theorem cd_listK {X : Cx} (hc : X.calm = true) : CallR X (.type "list") (rDs X.K listKD) := by
  intro pins s σ H xs us Q I r ⟨P, ds, dz, hm, rs, e, out⟩
  unfold listKD at e
  split at e
  · rename_i ks ds'
    cases e
    obtain ⟨v, rfl, r1⟩ := rs.get1
    obtain ⟨a, vs, rfl, hl, rd, _⟩ := r1
    refine call_list_dT hc pins s σ H _ us Q I r ⟨a, _, rfl, rd, fun p bs hp hk => out.newL hm ?_ hp⟩
    have go : ∀ (ks : List (List Key)) (vs : List V) (bs : List Addr), ks.length = vs.length → IsKeys H (ks.zip vs) bs → Reps X.K H (ks.map fun k => D.tup (k.map keyD)) P (bs.map V.ref) := fun ks => by
      induction ks with
      | nil => intro vs bs hl h; cases h; exact Reps.nil
      | cons k ks ih =>
        intro vs bs hl h
        cases vs with
        | nil => simp at hl
        | cons v vs =>
          rw [List.zip_cons_cons] at h
          cases h with
          | cons h1 h2 => exact Reps.cons (Rep.tup_of h1 (reps_keys k)) (ih vs _ (by simpa using hl) h2)
    exact go ks vs bs hl hk
  · cases e
@[simp] theorem d_listK {ks : List (List Key)} {ds : List D} : listKD [.dit ks ds] = .ok (.lst (ks.map fun k => .tup (k.map keyD))) := id rfl
section
variable {X : Cx} {P0 : Pr} {O W : List Nat} {E : EK} {pos : Pos}
theorem ce_compI {i : Nat} {x : Str} {p ap cp tp : Pos} {elt : Expr} {elts : List Expr} {kk : Nat} {ifs : List Expr} {scope : Scope} {own : List (Str × Nat)} {tm : GM} {t : BM} {me : EM} {is : List Nat} (hc : X.calm = true) (hN : X.N.Nodup) (ok : BlkOk X.N X.env.scope scope own)
    (hg : ∀ (P0 : Pr) (s : Shared) (H : Hp) (C : Addr) (cl : List (Str × Addr)) (fp : List Addr), CG (X.blk s H scope (compEnvC scope cl C X.env) fp) P0 O W (.Tuple elts kk tp) tm is)
    (ht : ∀ (s : Shared) (H : Hp) (C : Addr) (cl : List (Str × Addr)) (fp : List Addr), CTs (X.blk s H scope (compEnvC scope cl C X.env) fp) O W E00 ifs t)
    (he : ∀ (P0 : Pr) (s : Shared) (H : Hp) (C : Addr) (cl : List (Str × Addr)) (fp : List Addr), CEx (X.blk s H scope (compEnvC scope cl C X.env) fp) P0 O W E00 elt me)
    (hi : i ∉ O := by decide) (hx : X.N[i]? = some x := by rfl) (hvis : Vis X.env.scope x := by first | exact Or.inl rfl | exact Or.inr (Or.inl rfl) | exact Or.inr (Or.inr rfl)) (hd : (x == ("__debug__" : Str)) = false := by decide) (hcd : (x == ("__classdict__" : Str)) = false := by decide)
    (hbase : attributeBase (.Name x p) "items" X.env (eval (.Name x p) X.env) = eval (.Name x p) X.env := by rfl) (hline : (ap.endLine == cp.line) = true := by rfl)
    (hv : ∀ i ∈ is, i ∈ own.map (·.2) := by decide) (ho : ∀ i ∈ own.map (·.2), i ∉ O := by decide) (hs : ∀ y, foldedSetIterable (.Call (.Attribute (.Name x p) "items" ap) [] [] cp) X.env y = pure y := by intro _; rfl) :
    CEx X P0 O W E (.ListComp elt [⟨.Tuple elts kk tp, .Call (.Attribute (.Name x p) "items" ap) [] [] cp, ifs, 0⟩] scope pos) (cNox (cComp (cItems i) tm t me (own.map (·.2)))) := by
  have p2 := pe_lc (pos := pos) (g := fun v σ H Q => ∃ P0, tG X.K P0 O W tm is v σ H Q) (tt := fun σ H Q => ∃ P0, tMt X.K P0 O W E00 t σ H Q) (te := fun σ H Q => ∃ P0, tM X.K P0 O W E00 me σ H Q) hc hN (pi_itemsT (pe_var (i := i) (pos := p) hx hvis hd hcd) hbase hline) ok (fun s H C cl fp => PG.ex fun P0 => hg P0 s H C cl fp) ht (fun s H C cl fp => PE.ex fun P0 => he P0 s H C cl fp) hs
  have p1 := pe_lc (pos := pos) (g := fun v σ H Q => ∃ P0, tG X.K P0 O W tm is v σ H Q) (tt := fun σ H Q => ∃ P0, tMt X.K P0 O W E00 t σ H Q) (te := fun σ H Q => ∃ P0, tM X.K P0 O W E00 me σ H Q) hc hN (pi_items (pe_var (i := i) (pos := p) hx hvis hd hcd) hbase hline) ok (fun s H C cl fp => PG.ex fun P0 => hg P0 s H C cl fp) ht (fun s H C cl fp => PE.ex fun P0 => he P0 s H C cl fp) hs
  refine PE.imp (PE.or' (PE.or' p1 (pe_lock p1)) (PE.or' p2 (pe_lock p2))) fun σ H Q ⟨ρ, S, h⟩ => ?_
  obtain ⟨z, e, h⟩ := Res.of_nox1 (show Res E W σ H ((cComp (cItems i) tm t me (own.map (·.2)) ρ).nox) _ from h)
  have e0 : cComp (cItems i) tm t me (own.map (·.2)) ρ = .ok z := e
  unfold cComp at e
  obtain ⟨⟨⟨ds, ws⟩, ρ1⟩, e1, e⟩ := R.ok_of e
  unfold cItems at e1
  obtain ⟨d, e2, e1⟩ := R.ok_of e1
  have e2 := R.nox_of e2
  obtain ⟨ps, e3, e1⟩ := R.ok_of e1
  have e3 := R.nox_of e3
  obtain ⟨v, g1, g2⟩ := S.val i d (look_some e2) hi
  have go : ∀ (Q' : VK) (H' : Hp), tM X.K P0 O W E (cComp (cItems i) tm t me (own.map (·.2))) σ H' Q' → _ := fun Q' H' q => comp_core hv ho σ H' Q' q
  cases d with
  | dik ks ds =>
    left
    unfold Rep at g2
    obtain ⟨a, us, rfl, n, hl, rd, rs⟩ := g2
    rcases rd with rd | ⟨od, rd⟩
    · right
      refine ⟨a, _, rd, trivial, fun od => ?_⟩
      exact items_readK hi (go _ _ (tM_lock (u := HO.dK (ks.zip us)) S e0 h trivial rd n od)) g1 upd_same
    · left
      exact items_readK hi (go Q H ⟨ρ, S, by rw [e0]; exact h⟩) g1 rd
  | dit ks ds =>
    right
    unfold Rep at g2
    obtain ⟨a, us, rfl, n, hl, rd, rs⟩ := g2
    rcases rd with rd | ⟨od, rd⟩
    · right
      refine ⟨a, _, rd, trivial, fun od => ?_⟩
      exact items_readT hi (go _ _ (tM_lock (u := HO.dT (ks.zip us)) S e0 h trivial rd n od)) g1 upd_same
    · left
      exact items_readT hi (go Q H ⟨ρ, S, by rw [e0]; exact h⟩) g1 rd
  | _ => cases e3
end
end Y

set_option Elab.async false
set_option linter.all false
set_option maxRecDepth 100000
namespace Y
open PySem PySem.Spec PyProof.Rows L2
def dicUp : D → R Unit
  | .dik _ _ => .ok ()
  | .dit _ _ => .ok ()
  | _ => .stk
def cGetD (a b c : EM) : EM := fun ρ => do
  let (h1, ρ1) ← a ρ
  let x0 ← (h1.d ρ1).nox
  let _ ← (dicUp x0).nox
  let (h2, ρ2) ← b ρ1
  let (h3, ρ3) ← c ρ2
  let x ← (h1.d ρ3).nox
  let y ← (h2.d ρ3).nox
  let z ← h3.v.nox
  let o ← (getDic x y).nox
  pure (.vl (o.getD z), ρ3)
section
variable {X : Cx} {P0 : Pr} {O W : List Nat} {E : EK} {a e f : Expr} {ma mb mc : EM}
theorem ce_getD {ap cp : Pos} (hu : X.A.units + 1 < cLine) (ha : CEx X P0 O W E a ma) (hb : CEx X P0 O W E e mb) (hc : CEx X P0 O W E f mc) (m : M2 X a "get" ap e f cp := by exact ⟨rfl, rfl, rfl, rfl⟩) :
    CEx X P0 O W E (.Call (.Attribute a "get" ap) [e, f] [] cp) (cGetD ma mb mc) := PE.imp (pe_dget2 hu ha hb hc m) fun σ H Q ⟨ρ, S, h⟩ => by
  refine ⟨ρ, S, h.of_bind.mono fun ⟨h1, ρ1⟩ q x H1 S1 k1 r1 => ?_⟩
  obtain ⟨x0, e0, q⟩ := q.of_nox
  obtain ⟨_, e00, q⟩ := Res.of_nox (show Res E W σ H ((dicUp x0).nox >>= _) _ from q)
  have rx0 := r1.d S1 e0
  obtain ⟨p, rfl, isd⟩ : ∃ p, x = .ref p ∧ IsD H1 p := by
    cases x0 with
    | dik ks ds => obtain ⟨a, vs, rfl, _, rd, _⟩ := rx0; exact ⟨a, rfl, .inl ⟨_, rd⟩⟩
    | dit ks ds => obtain ⟨a, vs, rfl, _, rd, _⟩ := rx0; exact ⟨a, rfl, .inr ⟨_, rd⟩⟩
    | _ => cases e00
  refine ⟨p, rfl, isd, ρ1, S1, (Res.keep q k1).of_bind.mono fun ⟨h2, ρ2⟩ q2 y H2 S2 k2 r2 => ?_⟩
  refine ⟨ρ2, S2, (Res.keep q2 k2).of_bind.mono fun ⟨h3, ρ3⟩ q3 z H3 S3 k3 r3 => ?_⟩
  obtain ⟨dx, e1, q4⟩ := q3.of_nox
  obtain ⟨dy, e2, q5⟩ := q4.of_nox
  obtain ⟨dz, e3, q6⟩ := q5.of_nox
  obtain ⟨o, e4, q7⟩ := q6.of_nox
  have rx := (r1.keep S1 (k2.trans k3)).d S3 e1
  have ry := (r2.keep S2 k3).d S3 e2
  have rz := r3.v e3
  obtain ⟨c, r, ec, g, is, fr⟩ := getDic_rep rx ry e4
  cases ec
  refine ⟨r, g, ?_⟩
  cases o with
  | none =>
    have : r = none := by cases r with
      | none => rfl
      | some w => cases is
    rw [this]
    exact q7 z H3 S3 ((k1.trans k2).trans k3) rz
  | some d =>
    obtain ⟨v, rfl, rv⟩ := fr d rfl
    exact q7 v H3 S3 ((k1.trans k2).trans k3) rv
end
def sInsert (i : Nat) (mi mx : EM) : SM := fun ρ => do
  let _ ← (lstAt i ρ).nox
  let (h, ρ1) ← mi ρ
  let k ← h.v.nox
  let (h2, ρ2) ← mx ρ1
  let d ← h2.v.nox
  let ds ← (lstAt i ρ2).nox
  match k with
  | .int z => if decide (0 ≤ z ∧ z < 2 ^ 62) && szOk (ds.length + 1) then pure (.nx, ρ2.set i (some (.lst (ds.take z.toNat ++ [d] ++ ds.drop z.toNat)))) else .stk
  | _ => .stk
section
variable {K : PySem.W.Frag} {X : Cx} {P0 : Pr} {O W U : List Nat} {E : EK} {e f : Expr} {mi mx : EM} {pos : Pos}
def rInsert : V → List V → Hp → VK → Prop := fun x vs H Q => ∃ (l : Addr) (xs : List V) (i : Int) (y : V), x = .ref l ∧ vs = [.int i, y] ∧ H l = some (.lst xs) ∧ xs.length < sizeLine ∧ 0 ≤ i ∧ i < 2 ^ 63 ∧
    Q .non (upd H l (.lst (xs.take i.toNat ++ [y] ++ xs.drop i.toNat)))
theorem Reps.take' {H : Hp} {P : Pr} : ∀ {ds : List D} {vs : List V} (k : Nat), Reps K H ds P vs → Reps K H (ds.take k) P (vs.take k)
  | [], vs, k, h => by rw [h.nil_iff]; simp; exact Reps.nil
  | d :: ds, vs, 0, h => by simp; exact Reps.nil
  | d :: ds, vs, k + 1, h => by
    obtain ⟨v, ws, rfl, h1, h2⟩ := h.cons_iff
    exact Reps.cons h1 (Reps.take' k h2)
theorem Reps.drop' {H : Hp} {P : Pr} : ∀ {ds : List D} {vs : List V} (k : Nat), Reps K H ds P vs → Reps K H (ds.drop k) P (vs.drop k)
  | [], vs, k, h => by rw [h.nil_iff]; simp; exact Reps.nil
  | d :: ds, vs, 0, h => by simpa using h
  | d :: ds, vs, k + 1, h => by
    obtain ⟨v, ws, rfl, h1, h2⟩ := h.cons_iff
    exact Reps.drop' k h2
theorem tM_insert {i : Nat} (hi : i ∈ O) (D : Ends) (σ : St) (H : Hp) (h : tSt K P0 O W U E (sInsert i mi mx) D σ H) : tDrop (tBM K "list" rInsert (tVar i) (tCons (tM K P0 O W E mi) (tCons (tM K P0 O W E mx) tNil))) D σ H := by
  obtain ⟨ρ, S, h⟩ := h
  obtain ⟨ds0, e0, h⟩ := h.of_nox
  obtain ⟨l, vs0, h1, h2, _⟩ := S.lst hi (lstAt_ok e0)
  refine ⟨.ref l, h1, .inl ⟨rfl, _, SqL.of h2⟩, ρ, S, (h.of_bind.down S.sub).mono fun ⟨hd, ρ1⟩ q v H1 S1 k1 r1 => ?_⟩
  obtain ⟨k, e1, q⟩ := q.of_nox
  have rk := r1.v e1
  refine ⟨ρ1, S1, ((q.of_bind.down S1.sub).keep k1).mono fun ⟨hd2, ρ2⟩ q2 w H2 S2 k2 r2 => ?_⟩
  obtain ⟨d, e2, q2⟩ := q2.of_nox
  obtain ⟨ds, e3, q2⟩ := Res.of_nox (show Res E O σ H ((lstAt i ρ2).nox >>= _) _ from q2)
  obtain ⟨l', vs, h1', h3, h4⟩ := S2.lst hi (lstAt_ok e3)
  rw [h1] at h1'
  cases h1'
  have rd := r2.v e2
  obtain ⟨z, rfl⟩ : ∃ z, k = .int z := by
    clear rk e1 q
    cases k <;> first | (exact q2.elim) | exact ⟨_, rfl⟩
  unfold Rep at rk
  subst rk
  have q2 : Res E O σ H (if (decide (0 ≤ z ∧ z < 2 ^ 62) && szOk (ds.length + 1)) = true then R.ok (Fl.nx, ρ2.set i (some (.lst (ds.take z.toNat ++ [d] ++ ds.drop z.toNat)))) else .stk) _ := q2
  by_cases c : (decide (0 ≤ z ∧ z < 2 ^ 62) && szOk (ds.length + 1)) = true
  · rw [if_pos c] at q2
    rw [Bool.and_eq_true, decide_eq_true_eq] at c
    have c2 := of_decide_eq_true c.2
    have e24 : sizeLine = 16777216 := by decide
    refine ⟨l, vs, z, w, rfl, rfl, h3, by rw [h4.length]; omega, c.1.1, by omega, ?_⟩
    exact q2 σ _ (S2.lstW hi h1 h3 (((Reps.take' _ h4).append (Reps.cons rd Reps.nil)).append (Reps.drop' _ h4))) (Tr.ownW S.sub (k1.trans k2) hi h1) rfl
  · rw [if_neg c] at q2
    exact q2.elim
theorem cs_insert {i : Nat} {x : Str} {p ap cp : Pos} (h : CEx X P0 O W E e mi) (h' : CEx X P0 O W E f mx) (hi : i ∈ O := by decide) (hx : X.N[i]? = some x := by rfl) (hv : Vis X.env.scope x := by first | exact Or.inl rfl | exact Or.inr (Or.inl rfl) | exact Or.inr (Or.inr rfl)) (hd : (x == ("__debug__" : Str)) = false := by decide) (hcd : (x == ("__classdict__" : Str)) = false := by decide)
    (he : starEach [e, f] X.env = (false, eval e X.env) :: starEach [f] X.env := by rfl) (he2 : starEach [f] X.env = (false, eval f X.env) :: starEach [] X.env := by rfl) (hpl : (backTo cp (starEach [f] X.env)).any (·.1) = false := by rfl) (hbase : attributeBase (.Name x p) "insert" X.env (eval (.Name x p) X.env) = eval (.Name x p) X.env := by rfl) (hline : (ap.endLine == cp.line) = true := by rfl)
    (hfew : Few X cp [e, f] := by rfl) (hsw : swapsWith (.Call (.Attribute (.Name x p) "insert" ap) [e, f] [] cp) none pos.line X.env = pure false := by rfl) :
    CS X P0 O W U E (.Expr (.Call (.Attribute (.Name x p) "insert" ap) [e, f] [] cp) pos) (sInsert i mi mx) :=
  PS.imp (ps_expr (pe_bm PySem.F.plainAttrs_list PySem.F.slot_list_insert PySem.F.type_list_insert mt_insert (pe_var (i := i) hx hv hd hcd) (pa_cons h (pa_cons h' pa_nil he2) he) hbase hfew hline he hpl) hsw) (tM_insert hi)
end
variable {ρ : Y.Env}
@[simp] theorem e_getD {a b c : EM} : cGetD a b c ρ = (a ρ >>= fun p => (p.1.d p.2).nox >>= fun x0 => (dicUp x0).nox >>= fun _ => b p.2 >>= fun q => c q.2 >>= fun r => (p.1.d r.2).nox >>= fun x => (q.1.d r.2).nox >>= fun y => r.1.v.nox >>= fun z => (getDic x y).nox >>= fun o => R.ok (.vl (o.getD z), r.2)) := by
  unfold cGetD; congr
@[simp] theorem e_insert {i : Nat} {mi mx : EM} : sInsert i mi mx ρ = ((lstAt i ρ).nox >>= fun _ => mi ρ >>= fun p => p.1.v.nox >>= fun k => mx p.2 >>= fun q => q.1.v.nox >>= fun d => (lstAt i q.2).nox >>= fun ds => match k with
  | .int z => if (decide (0 ≤ z ∧ z < 2 ^ 62) && szOk (ds.length + 1)) = true then R.ok (Fl.nx, q.2.set i (some (.lst (ds.take z.toNat ++ [d] ++ ds.drop z.toNat)))) else .stk
  | _ => .stk) := by
  unfold sInsert; congr
@[simp] theorem d_dicUpT {ks : List (List Key)} {ds : List D} : dicUp (.dit ks ds) = .ok () := id rfl
end Y

set_option Elab.async false
set_option linter.all false
set_option maxRecDepth 100000
namespace Y
open PySem PySem.Spec PyProof.Rows L2
theorem PGs.imp {X : Cx} {e : List Expr} {t t' : TGs} (h : PGs X e t) (i : ∀ v σ H Q, t' v σ H Q → t v σ H Q) : PGs X e t' := by
  cases h with
  | mk h => exact ⟨fun pins s σ H v u Q I r q => h pins s σ H v u Q I r (i v σ H Q q)⟩
section
variable {X : Cx} {P0 : Pr} {O W : List Nat} {pos : Pos}
end
section
variable {κ : Type} [DecidableEq κ]
end
end Y

set_option Elab.async false
set_option linter.all false
set_option maxRecDepth 100000
namespace Y
open PySem PySem.Spec PyProof.Rows L2 RT
section
variable {prog : Program} {w : World} {A : Around} {E : Value → Shared → Prop} {s : Shared}
end
section
variable {X : Cx}
end
section
variable {X : Cx} {P0 : Pr} {O W : List Nat} {E : EK} {e : Expr} {me : EM} {pos : Pos}
end
variable {ρ : Y.Env}
end Y

set_option Elab.async false
set_option linter.all false
set_option maxRecDepth 100000
namespace Y
open PySem PySem.Spec PyProof.Rows L2
end Y

set_option Elab.async false
set_option linter.all false
set_option maxRecDepth 100000
namespace Y
open PySem PySem.Spec PyProof.Rows L2
abbrev PrT := Addr × List Int
/-- what a set holds of the first i things -/
structure Has (ks : List PrT) (i : Nat) (L : List PrT) : Prop where
  low : ∀ q ∈ L, q ∈ ks.take i
  top : ∀ q ∈ ks.take i, q.2 ∈ L.map (·.2)
theorem Has.none (ks : List PrT) : Has ks 0 [] := ⟨fun q z => (nomatch z), fun q z => by simp at z⟩
theorem take_more {α : Type} {l : List α} {i : Nat} {x : α} (h : l[i]? = some x) : l.take (i + 1) = l.take i ++ [x] := by rw [List.take_add_one, h]; rfl
theorem Has.stay {ks L : List PrT} {i : Nat} {x : PrT} (g : Has ks i L) (h : ks[i]? = some x) (m : x.2 ∈ L.map (·.2)) : Has ks (i + 1) L := by
  refine ⟨fun q z => ?_, fun q z => ?_⟩
  · rw [take_more h]; exact List.mem_append_left _ (g.low q z)
  · rw [take_more h] at z
    rcases List.mem_append.mp z with z | z
    · exact g.top q z
    · rw [List.mem_singleton] at z; rw [z]; exact m
theorem Has.grow {ks L M : List PrT} {i : Nat} {x : PrT} (g : Has ks i L) (h : ks[i]? = some x) (pm : M.Perm (x :: L)) : Has ks (i + 1) M := by
  refine ⟨fun q z => ?_, fun q z => ?_⟩
  · rw [take_more h]
    rcases List.mem_cons.mp (pm.mem_iff.mp z) with rfl | z
    · exact List.mem_append_right _ (by simp)
    · exact List.mem_append_left _ (g.low q z)
  · refine (pm.map (·.2)).mem_iff.mpr ?_
    rw [take_more h] at z
    rcases List.mem_append.mp z with z | z
    · exact List.mem_cons_of_mem _ (g.top q z)
    · rw [List.mem_singleton] at z; rw [z]; exact List.mem_cons_self
section
variable {P : Program} {w : World} {A : Around} {E : Value → Shared → Prop} {s : Shared}
end
section
variable {K : PySem.W.Frag} {X : Cx} {P0 : Pr} {O W : List Nat} {E : EK} {a e : Expr} {ma : EM} {pos : Pos}
end
end Y

set_option Elab.async false
set_option linter.all false
set_option maxRecDepth 100000
namespace Y
open PySem PySem.Spec PyProof.Rows L2
end Y

set_option Elab.async false
set_option linter.all false
set_option maxRecDepth 100000
namespace Y
open PySem PySem.Spec PyProof.Rows L2
section
variable {X : Cx}
end
end Y

set_option Elab.async false
set_option linter.all false
set_option maxRecDepth 100000
namespace Y
open PySem PySem.Spec PyProof.Rows L2
section
variable {X : Cx}
end
end Y

set_option Elab.async false
set_option linter.all false
set_option maxRecDepth 100000
namespace Y
open PySem PySem.Spec PyProof.Rows L2
section
variable {X : Cx} {e k : Expr} {te : TE} {p2 pos : Pos}
end
section
variable {X : Cx} {P0 : Pr} {O W : List Nat} {E : EK} {e k : Expr} {ma : EM} {mk : OM} {p2 pos : Pos}
end
variable {ρ : Y.Env}
end Y

set_option Elab.async false
set_option linter.all false
set_option maxRecDepth 100000
namespace Y
open PySem PySem.Spec PyProof.Rows L2
variable {K : PySem.W.Frag} {P0 : Pr} {O W U : List Nat} {E : EK} {ms : AM}
section
variable {X : Cx}
end
variable {ρ : Y.Env}
end Y

set_option Elab.async false
set_option linter.all false
set_option maxRecDepth 100000
namespace Y
open PySem PySem.Spec PyProof.Rows L2
section
variable {X : Cx} {P0 : Pr} {O W U : List Nat} {E : EK} {st2 : Stmt} {sts : List Stmt} {m mr : SM}
end
end Y

set_option Elab.async false
set_option linter.all false
set_option maxRecDepth 100000
namespace Y
open PySem PySem.Spec PyProof.Rows L2
section
variable {X : Cx} {i : Nat} {x : Str}
end
end Y

set_option Elab.async false
set_option linter.all false
set_option maxRecDepth 100000
namespace Y
open PySem PySem.Spec PyProof.Rows L2
section
variable {K : PySem.W.Frag} {O W : List Nat}
end
section
variable {X : Cx} {P0 : Pr} {O W : List Nat} {E : EK} {a b c tg : Expr} {ms : AM} {pos : Pos}
end
end Y

set_option Elab.async false
set_option linter.all false
set_option maxRecDepth 100000
namespace Y
open PySem PySem.Spec PyProof.Rows L2
section
variable {prog : Program} {w : World} {A : Around} {E : Value → Shared → Prop}
end
section
variable {X : Cx}
end
end Y

set_option Elab.async false
set_option linter.all false
set_option maxRecDepth 100000
namespace Y
open PySem PySem.Spec PyProof.Rows L2
section
variable {X : Cx} {P0 : Pr} {O W U : List Nat} {E : EK} {st : Stmt} {m n : SM} {pre tl : List Stmt}
end
section
variable {K : PySem.W.Frag} {P0 : Pr} {O W : List Nat} {ρ1 ρ2 : Y.Env} {σ1 σ2 : L2.St} {H1 H2 : Hp}
end
section
variable {X : Cx} {P0 : Pr} {O W U UU us : List Nat} {E : EK} {XE : XK} {e : Expr} {es : List Expr} {ms : AM} {pos pos2 p px : Pos} {k np i : Nat} {name x : Str} {n n0 : SM} {tl pre : List Stmt} {tr : D → Bool} {R : PySem.W.Frag → Pr → V → Hp → Prop}
def r0 (K : PySem.W.Frag) (A : Pr) (v : V) (H : Hp) : Prop := ∃ a ws b xs, v = .ref a ∧ A a ∧ ws.length < sizeLine ∧ H a = some (.lst ws) ∧ ws[0]? = some (V.ref b) ∧ A b ∧ b ≠ a ∧ H b = some (.lst xs)
end
end Y

set_option Elab.async false
set_option linter.all false
set_option maxRecDepth 100000
namespace Y
open PySem PySem.Spec PyProof.Rows L2
section
variable {K : PySem.W.Frag} {X : Cx} {P0 : Pr} {O W : List Nat} {E : EK} {e : Expr} {es : List Expr} {ms : AM} {pos : Pos}
end
section
variable {K : PySem.W.Frag} {X : Cx} {P0 : Pr} {O W : List Nat} {E : EK} {o e : Expr} {es : List Expr} {to : TE} {t : TA} {name : Str} {apos cpos : Pos} {id : String} {r : V → List V → Hp → VK → Prop}
end
section
variable {X : Cx}
end
variable {ρ : Y.Env}
@[simp] theorem d_lenF {x : List D} : lenD [.ftu x] = .ok (.int x.length) := id rfl
@[simp] theorem d_itF {x : List D} : itD (.ftu x) = .ok x := id rfl
@[simp] theorem d_ixF {x : List D} {i : Int} : ixD (.ftu x) (.int i) = match atI x i with | some d => .ok d | none => .stk := id rfl
@[simp] theorem d_listF {x : List D} : listD [.ftu x] = .ok (.lst x) := id rfl
@[simp] theorem isFt_F {ds : List D} : isFt (.ftu ds) = true := id rfl
@[simp] theorem isTup_F {ds : List D} : isTup (.ftu ds) = true := id rfl
@[simp] theorem nlF {ds : List D} : D.nl (.ftu ds) = nls ds := by simp [D.nl]
end Y

set_option Elab.async false
set_option linter.all false
set_option maxRecDepth 100000
set_option maxHeartbeats 4000000
namespace Y
open PySem PySem.Spec PyProof.Rows L2
section
variable {X : Cx}
end
end Y

set_option Elab.async false
set_option linter.all false
set_option maxRecDepth 100000
set_option maxHeartbeats 4000000
namespace Y
open PySem PySem.Spec PyProof.Rows L2
section
variable {prog : Program} {w : World} {A : Around} {E : Value → Shared → Prop} {s : Shared} {R : Result → Shared → Prop} {e it S T : Addr} {fp : List Addr} {n i : Nat} {P : Nat → Value → Prop} {St : Nat → Heap → Prop} {f : Bool} {oT : Obj} {old : Value}
/-- i pairs are out -/
def ESt (e it S : Addr) (St : Nat → Heap → Prop) (i : Nat) (h : Heap) : Prop := St i h ∧
  ((∃ old, IsEnum h e it ((i : Nat) : Int) old) ∨ ∃ old T f oT, IsEnumHeld h e it ((i : Nat) : Int) old T f ∧ h.get? T = some oT ∧ T ≠ e ∧ T ≠ it ∧ T ≠ S)
theorem ESt.ty {h : Heap} (x : ESt e it S St i h) : ∃ o, h.get? e = some o ∧ o.cls = .type "enumerate" := by
  rcases x.2 with ⟨_, y⟩ | ⟨_, _, _, _, y, _⟩
  · exact ⟨_, y, rfl⟩
  · exact ⟨_, y, rfl⟩
theorem ESt.stay (D : Draws prog w A it fp n P St) {h h' : Heap} (x : ESt e it S St i h) (nz : S ≠ e) (n1 : S ∉ fp) (k : ∀ b o, b ≠ S → h.get? b = some o → h'.get? b = some o) : ESt e it S St i h' := by
  obtain ⟨a, d⟩ := x
  refine ⟨D.frame _ _ _ a fun q hq o y => k q o (fun e2 => n1 (e2 ▸ hq)) y, ?_⟩
  rcases d with ⟨old, y⟩ | ⟨old, T, f, oT, y, y2, d3, d4, d5⟩
  · exact .inl ⟨old, k _ _ nz.symm y⟩
  · exact .inr ⟨old, T, f, oT, k _ _ nz.symm y, k _ _ d5 y2, d3, d4, d5⟩
end
end Y

set_option Elab.async false
set_option linter.all false
set_option maxRecDepth 100000
set_option maxHeartbeats 4000000
namespace Y
open PySem PySem.Spec PyProof.Rows L2
section
variable {X : Cx} {pins : List (Addr × Obj)} {σ : L2.St} {H : Hp} {s : Shared}
end
section
variable {X : Cx} {P0 : Pr} {O W : List Nat} {E : EK} {a b : Expr} {ms : AM} {pos : Pos}
end
variable {ρ : Y.Env}
end Y

set_option Elab.async false
set_option linter.all false
set_option maxRecDepth 100000
namespace Y
open PySem PySem.Spec PyProof.Rows L2
section
variable {X : Cx} {P0 : Pr} {O W : List Nat} {E : EK} {k v : Int} {c1 c2} {p1 p2 pos : Pos}
end
end Y

set_option Elab.async false
set_option linter.all false
set_option maxRecDepth 100000
namespace Y
open PySem PySem.Spec PyProof.Rows L2
section
variable {X : Cx} {P0 : Pr} {O W : List Nat} {E : EK} {a e : Expr} {ma mk : EM} {pos : Pos}
end
variable {ρ : Y.Env}
end Y

set_option Elab.async false
set_option linter.all false
set_option maxRecDepth 100000
namespace Y
open PySem PySem.Spec PyProof.Rows L2
section
variable {K : PySem.W.Frag} {P0 : Pr} {O W : List Nat} {ρ : Env} {σ : St} {H : Hp}
end
section
variable {X : Cx} {P0 : Pr} {O W U : List Nat} {E : EK} {st2 st3 : Stmt} {sts : List Stmt} {es : List Expr} {m0 : AM} {m2 m3 mr : SM}
end
end Y

set_option Elab.async false
set_option linter.all false
set_option maxRecDepth 100000
namespace Y
open PySem PySem.Spec PyProof.Rows L2
section
variable {X : Cx} {P0 : Pr} {O W U : List Nat} {E : EK} {e e2 : Expr} {ms : AM} {pos p2 : Pos} {k i : Nat}
end
end Y

set_option Elab.async false
set_option linter.all false
set_option maxRecDepth 100000
namespace Y
open PySem PySem.Spec PyProof.Rows L2
section
variable {X : Cx} {P0 : Pr} {O W U : List Nat} {E : EK} {i : Nat} {x : Str}
end
end Y

set_option Elab.async false
set_option linter.all false
set_option maxRecDepth 100000
namespace Y
open PySem PySem.Spec PyProof.Rows L2
section
variable {K : PySem.W.Frag} {X : Cx} {P0 : Pr} {O W U : List Nat} {E : EK} {a b e : Expr} {ma mb : EM} {pos : Pos}
end
variable {ρ : Y.Env}
end Y

set_option Elab.async false
set_option linter.all false
set_option maxRecDepth 100000
namespace Y
open PySem PySem.Spec PyProof.Rows L2
section
variable {X : Cx} {pins : List (Addr × Obj)} {σ : L2.St} {H : Hp} {s : Shared}
end
/-- what a def with a hidden slot promises; the slot's datum is the last one of g -/
def spT (K : PySem.W.Frag) (mg : Str → Option Value) (np : Nat) (O : List Nat) (g : Fn) : Sp := fun vs H Q E => vs.length = np ∧ ∃ v, spD K mg (np + 1) O g (vs ++ [v]) H Q E
structure GloT (P : Program) (w : World) (K : PySem.W.Frag) (mg : Str → Option Value) (base : Heap) (name : Str) (k np : Nat) (O : List Nat) (g : Fn) : Prop where
  ex : ∃ f fd ps, mg name = some (.ref f) ∧ PySem.W.keepIn K (.ref f) = true ∧ Binds K fd ps [] ∧ ps.length = np ∧ FnOk P w K mg base (L2N.CX P w) k f fd ps (spT K mg np O g)
section
variable {K : PySem.W.Frag} {mg : Str → Option Value} {P0 : Pr} {O Oc W U : List Nat} {ρ : Env} {σ : St} {H H' : Hp} {d : D} {v : V} {np n : Nat}
end
theorem GloT.mono {P : Program} {w : World} {K : PySem.W.Frag} {mg : Str → Option Value} {base : Heap} {name : Str} {k np : Nat} {O : List Nat} {g : Fn} {k' : Nat} (G : GloT P w K mg base name k np O g) (h : k ≤ k' := by decide) : GloT P w K mg base name k' np O g :=
  let ⟨f, fd, ps, h1, h2, h3, h4, F⟩ := G.ex
  ⟨f, fd, ps, h1, h2, h3, h4, F.mono h⟩
section
variable {X : Cx} {P0 : Pr} {O Oc W U : List Nat} {E : EK} {XE : XK} {e : Expr} {es : List Expr} {ms : AM} {pos : Pos} {k np : Nat} {name : Str} {pr : List (Nat × Nat)} {t : Nat}
end
end Y

set_option Elab.async false
set_option linter.all false
set_option maxRecDepth 100000
set_option maxHeartbeats 2000000
namespace Y
open PySem PySem.Spec PyProof.Rows L2
section
variable {X : Cx} {pins : List (Addr × Obj)} {σ : L2.St} {H : Hp} {s : Shared}
end
section
variable {prog : Program} {w : World} {A : Around} {s : Shared} {x q : Str} {params : Arguments} {body : Expr} {scope : Scope} {pm ctv : Value} {c' f : Addr} {v : Value} {Q : Value → Shared → Prop}
end
end Y

set_option Elab.async false
set_option linter.all false
set_option maxRecDepth 100000
set_option maxHeartbeats 2000000
namespace Y
open PySem PySem.Spec PyProof.Rows L2
section
variable {α : Type} {g : α → Int}
end
section
variable {X : Cx} {pins : List (Addr × Obj)} {σ : L2.St} {H : Hp} {s : Shared} {x q c : Str} {params : Arguments} {body : Expr} {scope : Scope} {pm ctv : Value} {c' f a : Addr} {xs : List Str} {Q : VK} {k : Nat}
end
end Y

set_option Elab.async false
set_option linter.all false
set_option maxRecDepth 100000
set_option maxHeartbeats 2000000
namespace Y
open PySem PySem.Spec PyProof.Rows L2
section
variable {K : PySem.W.Frag} {P0 : Pr} {O W : List Nat} {ρ : Env} {σ : L2.St} {H H2 : Hp} {t : Nat} {P : Addr} {q : Str}
end
section
variable {X : Cx} {P0 : Pr} {O W : List Nat} {E : EK} {a : Expr} {ma : EM} {pos : Pos} {k : Nat}
end
variable {ρ : Y.Env}
end Y

set_option Elab.async false
set_option linter.all false
set_option maxRecDepth 100000
namespace Y
open PySem PySem.Spec PyProof.Rows L2
section
variable {K : PySem.W.Frag} {mg : Str → Option Value} {O Oc W U : List Nat} {np n : Nat}
end
end Y

set_option Elab.async false
set_option linter.all false
set_option maxRecDepth 100000
namespace Y
open PySem PySem.Spec PyProof.Rows L2
section
variable {X : Cx} {P0 : Pr} {O Oc W : List Nat} {e : Expr} {es : List Expr} {ms : AM} {pos : Pos} {k k0 np : Nat} {name : Str} {pr : List (Nat × Nat)} {t : Nat}
end
end Y

set_option Elab.async false
set_option linter.all false
set_option maxRecDepth 100000
namespace Y
open PySem PySem.Spec PyProof.Rows L2
end Y

set_option Elab.async false
set_option linter.all false
set_option maxRecDepth 100000
set_option maxHeartbeats 4000000
namespace Y
open PySem PySem.Spec PyProof.Rows L2
section
variable {prog : Program} {w : World} {A : Around} {s : Shared} {x : Str} {Q : Value → Shared → Prop}
end

section
variable {X : Cx} {P0 : Pr} {O W : List Nat} {E : EK} {a : Expr} {ma : EM} {pos : Pos} {k : Nat}
end
end Y

set_option Elab.async false
set_option linter.all false
set_option maxRecDepth 100000
set_option maxHeartbeats 2000000
namespace Y
open PySem PySem.Spec PyProof.Rows L2
section
variable {X : Cx} {P0 : Pr} {O W : List Nat} {E : EK} {a : Expr} {ma : EM} {pos : Pos} {k : Nat}
end
variable {ρ : Y.Env}
end Y

set_option Elab.async false
set_option linter.all false
set_option maxRecDepth 100000
set_option maxHeartbeats 2000000
namespace Y
open PySem PySem.Spec PyProof.Rows L2
section
variable {X : Cx} {P0 : Pr} {O W : List Nat} {E : EK} {a : Expr} {ma : EM} {pos : Pos} {k : Nat}
end
variable {ρ : Y.Env}
end Y

set_option Elab.async false
set_option linter.all false
set_option maxRecDepth 100000
set_option maxHeartbeats 4000000
namespace Y
open PySem PySem.Spec PyProof.Rows L2
section
variable {prog : Program} {w : World} {A : Around} {E : Value → Shared → Prop} {s : Shared} {e it T : Addr} {fp : List Addr} {n i : Nat} {P : Nat → Value → Prop} {St : Nat → Heap → Prop} {f : Bool} {old : Value}
end
section
variable {X : Cx} {P0 : Pr} {O W : List Nat} {E : EK} {a e : Expr} {ms : AM} {pos : Pos}
end
end Y

set_option Elab.async false
set_option linter.all false
set_option maxRecDepth 100000
set_option maxHeartbeats 4000000
namespace Y
open PySem PySem.Spec PyProof.Rows L2
section
variable {X : Cx}
end
end Y

set_option Elab.async false
set_option linter.all false
set_option maxRecDepth 100000
set_option maxHeartbeats 4000000
namespace Y
open PySem PySem.Spec PyProof.Rows L2
section
variable {X : Cx}
end
end Y

set_option Elab.async false
set_option linter.all false
set_option maxRecDepth 100000
set_option maxHeartbeats 4000000
namespace Y
open PySem PySem.Spec PyProof.Rows L2
section
variable {P : Program} {w : World} {A : Around} {E : Value → Shared → Prop} {s : Shared}
def IntsE (l : List (Int × Value)) : Prop := ∀ e ∈ l, GoodE e
theorem IntsE.perm {l l' : List (Int × Value)} (h : IntsE l) (p : l'.Perm l) : IntsE l' := fun e he => h e (p.mem_iff.mp he)
end
end Y

namespace Y
open PySem PySem.Spec PyProof.Rows L2
end Y

namespace Y
open PySem PySem.Spec PyProof.Rows L2
section
variable {K : PySem.W.Frag} {X : Cx} {P0 : Pr} {O W : List Nat} {E : EK} {a b : Expr} {ma mb : EM} {pos : Pos}
end
variable {ρ : Y.Env}
end Y

set_option Elab.async false
set_option linter.all false
set_option maxRecDepth 100000
set_option maxHeartbeats 4000000
namespace Y
open PySem PySem.Spec PyProof.Rows L2
section
variable {X : Cx} {P0 : Pr} {O W U : List Nat} {E : EK} {a b : Expr} {ms : AM} {pos : Pos}
end
variable {ρ : Y.Env}
end Y

set_option Elab.async false
set_option linter.all false
set_option maxRecDepth 100000
namespace Y
open PySem PySem.Spec PyProof.Rows L2
section
variable {X : Cx}
end
end Y

set_option Elab.async false
set_option linter.all false
set_option maxRecDepth 100000
set_option maxHeartbeats 4000000
namespace Y
open PySem PySem.Spec PyProof.Rows L2
section
variable {X : Cx}
end
section
variable {K : PySem.W.Frag} {X : Cx} {P0 : Pr} {O W : List Nat} {E : EK} {a b : Expr} {ma mb : EM} {pos : Pos}
end
section
variable {X : Cx} {P0 : Pr} {O W U : List Nat} {E : EK}
end
variable {ρ : Y.Env}
end Y

set_option Elab.async false
set_option linter.all false
set_option maxRecDepth 100000
set_option maxHeartbeats 4000000
namespace Y
open PySem PySem.Spec PyProof.Rows L2
section
variable {X : Cx} {P0 : Pr} {O W : List Nat} {E : EK} {b : Expr} {mb : EM} {pos p : Pos}
end
variable {ρ : Y.Env}
end Y

set_option Elab.async false
set_option linter.all false
set_option maxRecDepth 100000
namespace Y
open PySem PySem.Spec PyProof.Rows L2
section
variable {K : PySem.W.Frag} {P0 : Pr} {O W : List Nat} {E : EK} {m : EM}
end
end Y

set_option Elab.async false
set_option linter.all false
set_option maxRecDepth 100000
namespace Y
open PySem PySem.Spec PyProof.Rows L2
section
variable {K : PySem.W.Frag} {X : Cx} {P0 : Pr} {O W U : List Nat} {E : EK} {a b e : Expr} {ma mb : EM} {pos : Pos}
end
variable {ρ : Y.Env}
end Y

set_option Elab.async false
set_option linter.all false
set_option maxRecDepth 100000
namespace Y
open PySem PySem.Spec PyProof.Rows L2
section
variable {X : Cx} {P0 : Pr} {O W : List Nat} {E : EK} {e k : Expr} {ma : EM} {mk : OM} {p2 pos : Pos}
end
variable {ρ : Y.Env}
end Y

set_option Elab.async false
set_option linter.all false
set_option maxRecDepth 100000
namespace Y
open PySem PySem.Spec PyProof.Rows L2
def compPostX (M : Model) (A : Around) (E : Value → Shared → Prop) (Q : Value → Shared → Prop) (acc : Value) (C : Addr) (fr : Option Addr) (r : Result) (s' : Shared) : Prop :=
  match r with
  | .ok _ => ∃ m, s'.heap.Ns C m ∧ ∀ h', Heap.SameBut C s'.heap h' → Q acc { s' with heap := h' }
  | .error x => ∃ m, s'.heap.Ns C m ∧ ∀ h', Heap.SameBut C s'.heap h' → ∀ cenv : PySem.Env, cenv.locals = C → cenv.frame = fr → wpAny M A (passOn "comprehension.variables-let-go" x cenv : Sem Value) (fun _ _ => False) E { s' with heap := h' }
section
variable {M : Model} {A : Around} {E : Value → Shared → Prop} {s : Shared} {env : PySem.Env}
theorem comp_freeX {e : Expr} {scope : Scope} {pos : Pos} {newAcc first : Sem Value} {g : Comprehension} {gs : List Comprehension} {cl : List (Str × Addr)} {Q : Value → Shared → Prop}
    (hcl : clausesOf e = g :: gs) (hs : ∀ x, foldedSetIterable g.iter env x = pure x) (hclos : closureFor scope env = pure cl)
    (hkind : scope.kind = .function) (hnames : ∀ x ∈ scope.names, x.2 = .local → scope.names.lookup x.1 = some .local)
    (h : wpAny M A first (fun x s₁ => wpAny M A (pyIter x) (fun it s₂ => wpAny M A newAcc (fun acc s₃ =>
      wpAny M A (newFunctionEnv scope env.globals cl [] env.qual none .none (some env)) (fun cenv s₄ =>
        cenv.frame = env.frame ∧ codeAny M A (.compStart e 0 it acc { cenv with scope := relabel scope env }) (compPostX M A E Q acc cenv.locals env.frame) s₄) E s₃) E s₂) E s₁) E s) :
    wpAny M A (comprehension e scope env pos newAcc false first none) Q E s := by
  unfold comprehension
  rw [hclos, hcl]
  refine wpAny_bind (wpAny_mono h (fun x s₁ h₁ => wpAny_bind (wpAny_standAt (wpAny_bind (wpAny_of_eq (hs x) (wpAny_bind (wpAny_holding (wpAny_mono h₁ (fun it s₂ h₂ =>
    wpAny_standIf (wpAny_bind (wpAny_mono h₂ (fun acc s₃ h₃ => wpAny_bind (wpAny_pure (wpAny_bind (wpAny_mono h₃ (fun cenv s₄ h₄ => ?_) fun _ _ h' => h')))) fun _ _ h' => h')))
      fun _ _ h' => h'))))))) fun _ _ h' => h')
  dsimp only
  obtain ⟨hfr, h₄⟩ := h₄
  have hv : ∀ x ∈ (scope.names.filter fun x => (x.2 == .local || x.2 == .cell) && x.1 != (".0" : Str)).reverse, x.2 = .local →
      PySem.Env.kindOf { cenv with scope := relabel scope env } x.1 = some .local := fun x hx hl => lookup_relabel_local (hnames x (List.mem_filter.mp (List.mem_reverse.mp hx)).1 hl)
  refine wpAny_holding (wpAny_bind (wpAny_attempt (wpAny_holding (wpAny_run (codeAny_mono h₄ fun r s' hr => ?_)))))
  cases r with
  | ok f =>
    obtain ⟨m, hn, hr⟩ := hr
    exact wpAny_bind (wpAny_holding (wpAny_comp_letGo (cenv := { cenv with scope := relabel scope env }) hkind _ s' m hv hn fun h' m' _ hs' => wpAny_pure (hr h' hs')))
  | error x =>
    obtain ⟨m, hn, hr⟩ := hr
    exact wpAny_bind (wpAny_holding (wpAny_comp_letGo (cenv := { cenv with scope := relabel scope env }) hkind _ s' m hv hn fun h' m' _ hs' => wpAny_mono (hr h' hs' _ rfl hfr) (fun _ _ f => f.elim) fun _ _ y => y))
end
theorem ff_hide {h h' B B' : Heap} {C : Addr} (hC : ∃ o, B.get? C = some o) (k : ∀ b, b ≠ C → h'.get? b = h.get? b) (hB : ∀ b, B.get? b = none → B'.get? b = none) : ∀ {l : List PySem.Env}, h.FunFrames B l → h'.FunFrames B' l
  | [], _ => trivial
  | env :: rest, ⟨hk, ⟨L, o, hf, hn, ho, hd⟩, hr⟩ => ⟨hk, ⟨L, o, hf, hB L hn, (k L fun z => by
      obtain ⟨o', e⟩ := hC
      rw [← z, hn] at e; cases e).trans ho, hd⟩, ff_hide hC k hB hr⟩
section
variable {X : Cx} {pins : List (Addr × Obj)} {σ : L2.St} {H : Hp} {s s' : Shared} {E : XK}
/-- a call's exception, and the state without it -/
theorem call_air (I : Inv X pins σ H s) {u : Value} (c : L2N.CX X.prog X.w X.stack H s E u s') : ∃ (a : Addr) (B : Heap) (sI : Shared) (H' : Hp) (cls : Value) (d : Option Addr),
    u = .ref a ∧ Inv X pins σ H' sI ∧ (∀ b o, sI.heap.get? b = some o → b ∉ frs X.stack → B.get? b = some o) ∧ sI.heap.UpToSlots s'.heap ∧ HandSPX.FlyingZ B X.stack a (L2N.Zn cls d) s'.heap ∧ H' a = none ∧ s'.os = sI.os ∧ AllBare s'.gens ∧ E cls d H' := by
  obtain ⟨a, B, H', cls, d, rfl, fl, hok, ub, na, os, ag, hE⟩ := c
  obtain ⟨G, g1, g2⟩ := restrict s'.heap fun b => (B.get? b).isSome || decide (b ∈ frs X.stack)
  have st : B.StaysIn s'.heap := fl.1
  have gB : ∀ b o, B.get? b = some o → G.get? b = some o := fun b o e => by
    rw [g1 b (by simp [e])]
    exact st b o e
  have gF : ∀ b, b ∈ frs X.stack → G.get? b = s'.heap.get? b := fun b hb => g1 b (by simp [hb])
  have og : ∀ b o, G.get? b = some o → s'.heap.get? b = some o ∧ ((B.get? b).isSome = true ∨ b ∈ frs X.stack) := fun b o e => by
    cases q : ((B.get? b).isSome || decide (b ∈ frs X.stack)) with
    | false => rw [g2 b q] at e; cases e
    | true =>
      rw [g1 b q] at e
      exact ⟨e, by simpa [Bool.or_eq_true] using q⟩
  refine ⟨a, B, { s with heap := G, gens := s'.gens, drawn := s'.drawn, toks := s'.toks }, H', cls, d, rfl, ?_, fun b o e hb => ?_, Heap.UpToSlots.of_keeps fun b o e => (og b o e).1, fl, na, os, ag, hE⟩
  · refine I.call (ch := []) ⟨fun b o e n hb _ => gB b o (ub.keep b o e n hb), fun b o e n hb _ => ?_, fun b o e n _ => ub.free b o e n, fun b o e _ => ?_, ub.tups, ub.frzs, ub.tbls⟩ (hok.kept gB) ag (fun _ z => nomatch z)
    · obtain ⟨sl, q⟩ := ub.slot b o e hb
      exact ⟨sl, by rw [gF b hb]; exact q⟩
    · by_cases hb : b ∈ frs X.stack
      · obtain ⟨sl, q⟩ := ub.slot b o e hb
        exact ⟨_, by rw [gF b hb]; exact q⟩
      · obtain ⟨o', q⟩ := ub.there b o e hb
        exact ⟨o', gB b o' q⟩
  · obtain ⟨e', h⟩ := og b o e
    rcases h with h | h
    · obtain ⟨o', q⟩ := Option.isSome_iff_exists.mp h
      have z := st b o' q
      rw [e'] at z; cases z
      exact q
    · exact absurd h hb
end
section
variable {X : Cx} {pins : List (Addr × Obj)} {σ : L2.St} {H3 : Hp} {s3 : Shared} {scope : Scope} {fp : List Addr} {E : XK}
/-- what leaves a block leaves the def, too -/
theorem blk_pass (hs : X.stack = X.env :: X.outer) (hf : X.env.frame = some X.env.locals) (I3 : Inv X pins σ H3 s3) (f3 : ∀ b ∈ fp, FpOk X pins H3 b) {cl : List (Str × Addr)}
    (tk : L2N.Takes X (fun cls d _ H => E cls d H)) {Q : Value → Shared → Prop} {acc : Value} (E' : Value → Shared → Prop)
    (hE : E' = notedBy (model X.prog X.w) X.A (compEnvC scope cl s3.heap.objs.size X.env) (fun e s2 => compPostX (model X.prog X.w) X.A X.xe Q acc s3.heap.objs.size X.env.frame (.error e) s2)) :
    Passes (L2N.CX X.prog X.w) ((X.blk s3 H3 scope (compEnvC scope cl s3.heap.objs.size X.env) fp).wish E') E := by
  intro pins' σ' H' s u s' I c
  show E' u s'
  rw [hE]
  have I : Inv (X.blk s3 H3 scope (compEnvC scope cl s3.heap.objs.size X.env) fp) pins' σ' H' s := I.unwish
  obtain ⟨a, B, sI, HI, cls, d, rfl, J, nb, up, fl, na, os, ag, w⟩ := call_air (X := X.blk s3 H3 scope (compEnvC scope cl s3.heap.objs.size X.env) fp) I c
  have nb : ∀ b o, sI.heap.get? b = some o → b ∉ frs X.stack → B.get? b = some o := nb
  have fl : HandSPX.FlyingZ B X.stack a (L2N.Zn cls d) s'.heap := fl
  have hfr : X.A.frames = some (X.env :: X.outer) := by rw [I3.ok.frames, hs]
  rw [hs] at fl
  show wpAny _ _ (noteFrame (.ref a) X.env) _ _ s'
  refine PXN.looks_onZ L2N.Zn.steady hfr hf fl fun h' hh up2 => ?_
  obtain ⟨m, ⟨o, es, ep, ho, hdd, r⟩, _⟩ := id J.loc
  have ho : sI.heap.get? s3.heap.objs.size = some o := ho
  have upA := up.trans up2
  obtain ⟨sl, hC⟩ := upA _ o ho (fun vs z => by rw [hdd] at z; cases z)
  have nC : HI s3.heap.objs.size = none := J.free
  have fC : FpOk X pins HI s3.heap.objs.size := I3.fpOk (Nat.le_refl _) nC
  refine ⟨m, ⟨_, es, ep, hC, hdd, r⟩, fun h'' sb cenv hcl hcf => ?_⟩
  obtain ⟨hkb, hen, hl, oe, vs, T, oT, ts, he, hz, hde, h1, hnT, hTe, hT, hdT, h3⟩ := hh
  have aC : a ≠ s3.heap.objs.size := fun z => by
    rw [z] at he
    rw [hC] at he
    cases he
    rw [hdd] at hde
    cases hde
  have TC : T ≠ s3.heap.objs.size := fun z => by
    rw [z] at hT
    rw [hC] at hT
    cases hT
    rw [hdd] at hdT
    cases hdT
  have hBC : ∃ o, B.get? s3.heap.objs.size = some o := ⟨o, nb _ o ho fun hm => (List.mem_cons.mp (I3.stkSub _ hm)).elim (fun z => fC.2.1 z) fun z => fC.2.2.1 z⟩
  have bn : ∀ b, B.get? b = none → (PySem.W.hideAll B [s3.heap.objs.size]).get? b = none := fun b e => by
    cases q : (PySem.W.hideAll B [s3.heap.objs.size]).get? b with
    | none => rfl
    | some o' => have := PySem.W.of_hideAll _ q; rw [e] at this; cases this
  have hkb2 : (PySem.W.hideAll B [s3.heap.objs.size]).StaysIn h'' := fun b o' e => by
    have hne : b ≠ s3.heap.objs.size := fun z => by
      rw [PySem.W.hideAll_none _ (List.mem_singleton.mpr z)] at e; cases e
    exact (sb.2 b hne).trans (hkb b o' (PySem.W.of_hideAll _ e))
  have hl2 : h''.FunFrames (PySem.W.hideAll B [s3.heap.objs.size]) (X.env :: X.outer) := ff_hide hBC (fun b hb => sb.2 b hb) bn hl
  have he2 : h''.get? a = some oe := (sb.2 a aC).trans he
  have ht2 : HandSPX.TracedZ h'' (PySem.W.hideAll B [s3.heap.objs.size]) a (L2N.Zn cls d) (rawInt X.env.locals) := ⟨oe, vs, T, oT, ts, he2, hz, hde, h1, bn T hnT, hTe, (sb.2 T TC).trans hT, hdT, h3⟩
  unfold PySem.passOn
  refine wpAny_bind (wpAny_field (s := { s' with heap := h'' }) he2 hde h1 ?_)
  rw [if_neg (show ¬ ((Value.ref T == Value.none) = true) from by simp)]
  have fin : wpAny (model X.prog X.w) X.A (setFlight (.ref a) cenv.frame) (fun _ s4 => wpAny (model X.prog X.w) X.A (throw (.ref a) : Sem Value) (fun _ _ => False) X.xe s4) X.xe { s' with heap := h'' } := by
    refine HandSPX.setFlight_anyZ (s := { s' with heap := h'' }) hkb2 hl2 ht2 fun h4 k1 k2 k3 k4 => wpAny_throw (tk _ _ ?_)
    rw [hcf, hf] at k3
    have I7 : Inv X pins σ HI sI := I3.call' (ch := fp) J.os J.base J.hok J.bare fun b hb => ⟨(f3 b hb).2.2.2.1, (f3 b hb).2.1, (f3 b hb).2.2.2.2.1, (f3 b hb).2.2.2.2.2⟩
    have I8 : Inv X pins σ HI { sI with heap := PySem.W.hideAll sI.heap [s3.heap.objs.size], toks := sI.toks } := I7.turned (t' := sI.toks) (it := s3.heap.objs.size) (fun b o' hb e => PySem.W.hideAll_get _ e (fun z => hb (List.mem_singleton.mp z))) fC.1 fC.2.1 fC.2.2.2.1 fC.2.2.2.2.1 fC.2.2.2.2.2
    refine ⟨a, PySem.W.hideAll B [s3.heap.objs.size], _, pins, σ, HI, cls, d, rfl, I8, fun b o' e hb => ?_, fun b o' e hnf => ?_, .inr (.inr ?_), na, os, ag, w⟩
    · have hne : b ≠ s3.heap.objs.size := fun z => by
        rw [PySem.W.hideAll_none _ (List.mem_singleton.mpr z)] at e; cases e
      exact PySem.W.hideAll_get _ (nb b o' (PySem.W.of_hideAll _ e) hb) fun z => hne (List.mem_singleton.mp z)
    · have hne : b ≠ s3.heap.objs.size := fun z => by
        rw [PySem.W.hideAll_none _ (List.mem_singleton.mpr z)] at e; cases e
      obtain ⟨sl1, e1⟩ := upA b o' (PySem.W.of_hideAll _ e) hnf
      obtain ⟨sl2, e2⟩ := k4 b _ ((sb.2 b hne).trans e1) hnf
      exact ⟨sl2, e2⟩
    · rw [hs]
      exact ⟨k1, bn a hen, k2, k3⟩
  first
    | exact wpAny_bind (wpAny_pure (wpAny_bind fin))
    | exact wpAny_bind fin
end
end Y

set_option Elab.async false
set_option linter.all false
set_option maxRecDepth 100000
namespace Y
open PySem PySem.Spec PyProof.Rows L2
section
variable {X : Cx} {E : XK}
theorem pe_lcX {elt tg iter : Expr} {ifs : List Expr} {scope : Scope} {own : List (Str × Nat)} {pos : Pos} {wi : TI} {g : TG} {tt : TT} {te : TE}
    (hs0 : X.stack = X.env :: X.outer) (hf : X.env.frame = some X.env.locals) (tk : L2N.Takes X (fun cls d _ H => E cls d H))
    (hc : X.calm = true) (hN : X.N.Nodup) (hi : PI X tg iter wi) (ok : BlkOk X.N X.env.scope scope own)
    (hg : ∀ (s : Shared) (H : Hp) (C : Addr) (cl : List (Str × Addr)) (fp : List Addr), PG (X.blk s H scope (compEnvC scope cl C X.env) fp) tg g) (ht : ∀ (s : Shared) (H : Hp) (C : Addr) (cl : List (Str × Addr)) (fp : List Addr), PTs (X.blk s H scope (compEnvC scope cl C X.env) fp) ifs tt)
    (he : ∀ (s : Shared) (H : Hp) (C : Addr) (cl : List (Str × Addr)) (fp : List Addr) (E' : Value → Shared → Prop), Passes (L2N.CX X.prog X.w) ((X.blk s H scope (compEnvC scope cl C X.env) fp).wish E') E → PE ((X.blk s H scope (compEnvC scope cl C X.env) fp).wish E') elt te)
    (hs : ∀ x, foldedSetIterable iter X.env x = pure x := by intro _; rfl) :
    PE X (.ListComp elt [⟨tg, iter, ifs, 0⟩] scope pos) (tLc wi g tt te (own.map (·.2))) := by
  refine ⟨fun pins s σ H Q I h => ?_⟩
  rw [eval_ListComp]
  have hfree : ∀ y ∈ scope.names, y.2 = .free → ∃ c, X.env.cells.lookup y.1 = some c := fun y hy e => by
    rcases ok.free y hy e with k | k
    · exact I.ok.has _ (.inl k)
    · exact I.ok.has _ (.inr k)
  refine comp_freeX rfl hs (closure_ok hfree) ok.kind (fun y hy e => by rw [ok.uniq y hy, e])
    (thn (hi.run pins s σ H _ I h) fun xv s1 hx => thn hx fun itv s2 h2 => ?_)
  obtain ⟨it, fp, tn, J, H2, e, I2, T, st2, f2, q⟩ := h2
  subst e
  refine wpAny_newObj_type (newEnv_comp ?_) (by show 0 ≤ sizeLine; decide)
  generalize hD : s2.heap.objs.size = D
  have hDn : H2 D = none := I2.hok.fresh (Nat.le_of_eq hD)
  obtain ⟨W, ⟨m0, w0⟩, turn⟩ := q D hDn
  generalize hs3 : ({ s2 with heap := s2.heap.push { cls := .type "list", data := .seq ([] : List Value).toArray } } : Shared) = s3
  have I3 : Inv X pins σ (upd H2 D (.lst [])) s3 := by
    rw [← hs3]
    refine I2.laid (t' := s2.toks) (fun b o e => Heap.get?_push_of_some _ e) (Nat.le_of_eq hD) ⟨Nat.zero_le _, [], 0, .nil, ?_⟩
    rw [← hD]
    exact Heap.get?_push_size _ rfl
  have h3 : s3.heap = s2.heap.push { cls := .type "list", data := .seq ([] : List Value).toArray } := by rw [← hs3]
  have sz : ∀ b ∈ fp, b < s2.heap.objs.size := fun b hb => by
    obtain ⟨o, e, _⟩ := T.obj _ _ st2 b hb
    exact Heap.lt_size e
  have f3 : ∀ b ∈ fp, FpOk X pins (upd H2 D (.lst [])) b ∧ b < s3.heap.objs.size := fun b hb => by
    have hlt := sz b hb
    refine ⟨⟨?_, (f2 b hb).2⟩, by rw [h3, Heap.size_push]; exact Nat.lt_succ_of_lt hlt⟩
    rw [upd_ne (by rw [← hD]; exact Nat.ne_of_lt hlt)]
    exact (f2 b hb).1
  have st3 : tn 0 s3.heap := T.keep _ _ _ st2 fun b _ o e => by rw [h3]; exact Heap.get?_push_of_some _ e
  have I4 := block_start I3 ok hN f3
  have pg := hg s3 (upd H2 D (.lst [])) s3.heap.objs.size (cellsFrom (s3.heap.objs.size + 1) scope.names (cloFrom X.env.cells scope.names [])) fp
  have pt := ht s3 (upd H2 D (.lst [])) s3.heap.objs.size (cellsFrom (s3.heap.objs.size + 1) scope.names (cloFrom X.env.cells scope.names [])) fp
  have pe := he s3 (upd H2 D (.lst [])) s3.heap.objs.size (cellsFrom (s3.heap.objs.size + 1) scope.names (cloFrom X.env.cells scope.names [])) fp _
    (blk_pass (Q := EP X pins σ Q) (acc := .ref D) (scope := scope) (fp := fp) hs0 hf I3 (fun b hb => (f3 b hb).1) (cl := cellsFrom (s3.heap.objs.size + 1) scope.names (cloFrom X.env.cells scope.names [])) tk _ rfl)
  refine ⟨rfl, ?_⟩
  show codeAny _ _ (.compStart (.ListComp elt [⟨tg, iter, ifs, 0⟩] scope pos) 0 (.ref it) (.ref D) (compEnvC scope (cellsFrom (s3.heap.objs.size + 1) scope.names (cloFrom X.env.cells scope.names [])) s3.heap.objs.size X.env)) (compPostX (model X.prog X.w) X.A X.xe (EP X pins σ Q) (.ref D) s3.heap.objs.size X.env.frame) { s3 with heap := pushCells (s3.heap.push { cls := .type "dict", data := .dict #[] }) scope.names }
  have nfp : ∀ b ∈ fp, (upd H2 D (.lst [])) b = none := fun b hb => (f3 b hb).1.1
  generalize hce : compEnvC scope (cellsFrom (s3.heap.objs.size + 1) scope.names (cloFrom X.env.cells scope.names [])) s3.heap.objs.size X.env = ce at I4 pg pt pe ⊢
  have cL : ce.locals = s3.heap.objs.size := by subst hce; rfl
  generalize hH3 : upd H2 D (.lst []) = H3 at I3 I4 pg pt pe w0 nfp f3
  generalize hs4 : ({ s3 with heap := pushCells (s3.heap.push { cls := .type "dict", data := .dict #[] }) scope.names } : Shared) = s4 at I4 ⊢
  have st4 : tn 0 s4.heap := T.keep _ _ _ st3 fun b _ o e => by rw [← hs4]; exact pushCells_keeps _ _ _ _ (Heap.get?_push_of_some _ e)
  have stat : ∀ {σ' : L2.St} {H' : Hp} {s' : Shared}, Inv (X.blk s3 H3 scope ce fp) [] σ' H' s' → (∀ b ∈ fp, H' b = none) → ∀ b ∈ fp, FpOk (X.blk s3 H3 scope ce fp) [] H' b := fun {σ' H' s'} I' hn b hb =>
    ⟨hn b hb, (I'.ok.exf b hb).1, I'.ok.exfs b hb, .inl hb, fun x c e => (I'.ok.exf b hb).2 x c e, fun p hp => absurd (show p ∈ ([] : List (Addr × Obj)) ++ [] from hp) (by simp)⟩
  have loop : codeAny (model X.prog X.w) X.A (.compLoop (.ListComp elt [⟨tg, iter, ifs, 0⟩] scope pos) 0 (.ref it) (.ref D) ce) (compPostX (model X.prog X.w) X.A X.xe (EP X pins σ Q) (.ref D) s3.heap.objs.size X.env.frame) s4 := by
    refine compLoop_any (fun n s' => ∃ i H', Inv (X.blk s3 H3 scope ce fp) [] (wipe σ (own.map (·.2))) H' s' ∧ tn i s'.heap ∧ (∀ b ∈ fp, H' b = none) ∧ W i n H') ?_ m0 ⟨0, H3, I4, st4, nfp, w0⟩
    rintro n s5 ⟨i, H5, I5, st5, n5, w5⟩
    rcases turn i n H5 w5 with ⟨stop, qq⟩ | ⟨go, Nx, hNx, step⟩
    · have td := T.done (X.blk s3 H3 scope ce fp) rfl rfl rfl hc i [] s5 _ H5 (fun _ _ => False) I5 (stat I5 n5) st5 stop
      refine thnF td fun r s6 ⟨hr, I6⟩ => ?_
      subst hr
      have I7 : Inv X pins σ H5 s6 := I3.call' (ch := fp) I6.os I6.base I6.hok I6.bare fun b hb => ⟨(f3 b hb).1.2.2.2.1, (f3 b hb).1.2.1, (f3 b hb).1.2.2.2.2.1, (f3 b hb).1.2.2.2.2.2⟩
      have nC : H5 s3.heap.objs.size = none := by
        have z : H5 ce.locals = none := I6.free
        rw [cL] at z
        exact z
      obtain ⟨m, hn, _⟩ := I6.loc
      have hn : s6.heap.Ns ce.locals m := hn
      rw [cL] at hn
      refine ⟨m, hn, fun h'' sb => ?_⟩
      obtain ⟨f0, f1, f2', f3', f4, f5⟩ := I3.fpOk (Nat.le_refl _) nC
      exact ⟨.ref D, H5, I7.turned (t' := s6.toks) (fun b o hb e => (sb.2 b hb).trans e) f0 f1 f3' f4 f5, rfl, qq⟩
    · have ti := T.item (X.blk s3 H3 scope ce fp) rfl rfl rfl hc i [] s5 _ H5 (fun _ _ => False) I5 (stat I5 n5) st5 go
      refine thnF ti fun r s6 ⟨u, hr, h6⟩ => ?_
      subst hr
      refine thnF h6 fun _ s7 ⟨x, H7, I7, r7, y7, st7, n7⟩ => ?_
      have I7' := I7.pinned (stat I7 n7) (T.obj _ _ st7)
      refine thnF (pg.run _ s7 _ H7 x u _ I7' r7 (step x H7 y7)) fun _ s8 ⟨σ8, H8, I8, hw8, q8⟩ => ?_
      refine thnF (pt.run _ s8 σ8 H8 _ I8 q8) fun b s9 ⟨H9, I9, q9⟩ => ?_
      have fin : ∀ {s' : Shared} {H' : Hp}, Inv (X.blk s3 H3 scope ce fp) ([] ++ pinsAt fp s7.heap) σ8 H' s' → Nx H' → ∃ m, m < n ∧ ∃ i H', Inv (X.blk s3 H3 scope ce fp) [] (wipe σ (own.map (·.2))) H' s' ∧ tn i s'.heap ∧ (∀ b ∈ fp, H' b = none) ∧ W i m H' := fun {s' H'} I' nx => by
        obtain ⟨m', hm, w'⟩ := hNx H' nx
        have pin' : ∀ b ∈ fp, ∀ o, s7.heap.get? b = some o → s'.heap.get? b = some o ∧ H' b = none := fun b hb o e =>
          let z := I'.pin (b, o) (List.mem_append_right _ (List.mem_append_right _ (mem_pinsAt hb e)))
          ⟨z.1, z.2.1⟩
        have hl : (wipe σ (own.map (·.2))).length = σ8.length := by rw [← hw8, wipe_length]
        refine ⟨m', hm, i + 1, H', (I'.unpinned (pins := [])).weak hl (fun j v e => ?_), T.keep _ _ _ st7 fun b hb o e => (pin' b hb o e).1, fun b hb => ?_, w'⟩
        · rw [← hw8] at e
          exact (wipe_some e).1
        · obtain ⟨o, e, _⟩ := T.obj _ _ st7 b hb
          exact (pin' b hb o e).2
      cases b with
      | false =>
        simp only [Bool.false_eq_true, if_false] at q9 ⊢
        exact fin I9 q9
      | true =>
        simp only [if_true] at q9 ⊢
        refine wpAny_mono (pe.run _ s9 σ8 H9 _ (I9.wish _) q9) (fun z s10 ⟨yv, H10, I10, r10, acc, hD10, hz10, nx⟩ => ?_) fun _ _ x => x
        exact app_ok (X := X.blk s3 H3 scope ce fp) I10.unwish hD10 hz10 r10 fun s11 I11 => fin I11 nx
  exact codeAny_compStart_list loop (T.self X.A 0 _ _ _ st4 loop)
end
end Y

set_option Elab.async false
set_option linter.all false
set_option maxRecDepth 100000
namespace Y
open PySem PySem.Spec PyProof.Rows L2
section
variable {K : PySem.W.Frag} {P0 : Pr} {O W : List Nat} {E : EK}
theorem tM_of00 {m : EM} {σ : L2.St} {H : Hp} {Q : VK} (h : tM K P0 O W E00 m σ H Q) : tM K P0 O W E m σ H Q := by
  obtain ⟨ρ, S, h⟩ := h
  refine ⟨ρ, S, ?_⟩
  cases e : m ρ with
  | stk => rw [e] at h; exact h
  | er c ds => rw [e] at h; exact (h H .refl).elim
  | ok a => rw [e] at h; exact h
theorem tMt_mono {m : BM} {σ : L2.St} {H : Hp} {Q Q' : Bool → Hp → Prop} (i : ∀ b H, Q b H → Q' b H) (h : tMt K P0 O W E m σ H Q) : tMt K P0 O W E m σ H Q' := by
  obtain ⟨ρ, S, h⟩ := h
  exact ⟨ρ, S, h.mono fun a q H' S' k => i _ _ (q H' S' k)⟩
end
section
variable {X : Cx} {P0 : Pr} {O W : List Nat} {E : EK} {XE : XK} {tg : Expr} {pos : Pos}
end
end Y

set_option Elab.async false
set_option linter.all false
set_option maxRecDepth 100000
namespace Y
open PySem PySem.Spec PyProof.Rows L2
noncomputable def cCompLX (tm : GM) (e : EM) (vs ws : List Nat) : List D → Y.Env → R (List D × Y.Env)
  | [], ρ => .ok ([], ρ)
  | x :: xs, ρ => do
    let ρ1 ← (tm x ρ).nox
    let (h, ρ3) ← e ρ1
    let d ← h.v.nox
    let _ ← (chk ws ρ (wipeE ρ3 vs)).nox
    let (ys, ρ5) ← cCompLX tm e vs ws xs (wipeE ρ3 vs)
    pure (d :: ys, ρ5)
inductive ErStep (tm : GM) (e : EM) (vs ws : List Nat) (x : D) (xs : List D) (ρ : Y.Env) (c : Str) (ds : List D) : Prop where
  | here (ρ1 : Y.Env) (e1 : tm x ρ = .ok ρ1) (e2 : e ρ1 = .er c ds)
  | on (ρ1 ρ3 : Y.Env) (h : Hd) (d : D) (e1 : tm x ρ = .ok ρ1) (e2 : e ρ1 = .ok (h, ρ3)) (e3 : h.v = .ok d) (e4 : chk ws ρ (wipeE ρ3 vs) = .ok ()) (e5 : cCompLX tm e vs ws xs (wipeE ρ3 vs) = .er c ds)
theorem erX_step {tm : GM} {e : EM} {vs ws : List Nat} {x : D} {xs : List D} {ρ : Y.Env} {c : Str} {ds : List D} (h : cCompLX tm e vs ws (x :: xs) ρ = .er c ds) : ErStep tm e vs ws x xs ρ c ds := by
  unfold cCompLX at h
  cases e1 : tm x ρ with
  | stk => rw [e1] at h; cases h
  | er _ _ => rw [e1] at h; cases h
  | ok ρ1 =>
    rw [e1] at h
    have h : (e ρ1 >>= fun p => p.1.v.nox >>= fun d => (chk ws ρ (wipeE p.2 vs)).nox >>= fun _ => cCompLX tm e vs ws xs (wipeE p.2 vs) >>= fun q => R.ok (d :: q.1, q.2)) = .er c ds := h
    cases e2 : e ρ1 with
    | stk => rw [e2] at h; cases h
    | er c' ds' => rw [e2] at h; cases h; exact .here ρ1 e1 e2
    | ok p =>
      rw [e2] at h
      obtain ⟨hd, ρ3⟩ := p
      have h : (hd.v.nox >>= fun d => (chk ws ρ (wipeE ρ3 vs)).nox >>= fun _ => cCompLX tm e vs ws xs (wipeE ρ3 vs) >>= fun q => R.ok (d :: q.1, q.2)) = .er c ds := h
      cases e3 : hd.v with
      | stk => rw [e3] at h; cases h
      | er _ _ => rw [e3] at h; cases h
      | ok d =>
        rw [e3] at h
        have h : ((chk ws ρ (wipeE ρ3 vs)).nox >>= fun _ => cCompLX tm e vs ws xs (wipeE ρ3 vs) >>= fun q => R.ok (d :: q.1, q.2)) = .er c ds := h
        cases e4 : chk ws ρ (wipeE ρ3 vs) with
        | stk => rw [e4] at h; cases h
        | er _ _ => rw [e4] at h; cases h
        | ok u =>
          rw [e4] at h
          have h : (cCompLX tm e vs ws xs (wipeE ρ3 vs) >>= fun q => R.ok (d :: q.1, q.2)) = .er c ds := h
          cases e5 : cCompLX tm e vs ws xs (wipeE ρ3 vs) with
          | stk => rw [e5] at h; cases h
          | ok _ => rw [e5] at h; cases h
          | er c' ds' => rw [e5] at h; cases h; exact .on ρ1 ρ3 hd d e1 e2 e3 e4 e5
noncomputable def cCompY (im : IM) (tm : GM) (e : EM) (vs : List Nat) : EM := fun ρ => do
  let ((ds, ws), ρ1) ← im ρ
  match cCompL tm cYes e vs ws ds (wipeE ρ1 vs) with
  | .ok (ys, ρ2) => .ok (.fr (.lst ys), ρ2)
  | .stk => .stk
  | .er _ _ => match cCompLX tm e vs ws ds (wipeE ρ1 vs) with
    | .er c xs => .er c xs
    | _ => .stk
section
variable {K : PySem.W.Frag} {P0 : Pr} {O W : List Nat} {E : EK}
theorem comp_coreY {im : IM} {tm : GM} {me : EM} {is vs : List Nat} (hv : ∀ i ∈ is, i ∈ vs) (ho : ∀ i ∈ vs, i ∉ O) (σ : L2.St) (H : Hp) (Q : VK) (h : tM K P0 O W E (cCompY im tm me vs) σ H Q) :
    tLc (tMi K P0 O W E im) (fun v σ H Q => ∃ P0, tG K P0 O W tm is v σ H Q) (fun σ H Q => ∃ P0, tMt K P0 O W E00 cYes σ H Q) (fun σ H Q => ∃ P0, tM K P0 O W E me σ H Q) vs σ H Q := by
  obtain ⟨ρ, S, h⟩ := h
  have plain : cCompY im tm me vs ρ = cComp im tm cYes me vs ρ → tLc (tMi K P0 O W E im) (fun v σ H Q => ∃ P0, tG K P0 O W tm is v σ H Q) (fun σ H Q => ∃ P0, tMt K P0 O W E00 cYes σ H Q) (fun σ H Q => ∃ P0, tM K P0 O W E me σ H Q) vs σ H Q := fun eq => by
    have h0 := comp_core (t := cYes) hv ho σ H Q ⟨ρ, S, by rw [← eq]; exact h⟩
    obtain ⟨ρ', S', h0⟩ := h0
    refine ⟨ρ', S', h0.mono fun a q J H1 Ok S1 k1 src ok hz D hD => ?_⟩
    obtain ⟨W', w0, turn⟩ := q J H1 Ok S1 k1 src ok hz D hD
    refine ⟨W', w0, fun i m Hx w => (turn i m Hx w).imp id fun ⟨go, Nx, n1, st⟩ => ⟨go, Nx, n1, fun x H' y => ?_⟩⟩
    obtain ⟨P1, ρa, d, ρb, s1, r1, e1, q1⟩ := st x H' y
    refine ⟨P1, ρa, d, ρb, s1, r1, e1, fun σ2 Sa g1 g2 => ?_⟩
    obtain ⟨z1, P2, z2⟩ := q1 σ2 Sa g1 g2
    refine ⟨z1, P2, tMt_mono (fun b H3 z3 => ?_) z2⟩
    cases b with
    | false => exact z3
    | true =>
      obtain ⟨P3, z4⟩ := (if_pos rfl).mp z3
      exact (if_pos rfl).mpr ⟨P3, tM_of00 z4⟩
  cases e : im ρ with
  | stk =>
    have : cCompY im tm me vs ρ = .stk := by unfold cCompY; rw [e]; rfl
    rw [this] at h; exact h.elim
  | er c xs => exact plain (by unfold cCompY cComp; rw [e]; rfl)
  | ok p =>
    obtain ⟨⟨ds, ws⟩, ρ1⟩ := p
    cases e2 : cCompL tm cYes me vs ws ds (wipeE ρ1 vs) with
    | stk =>
      have : cCompY im tm me vs ρ = .stk := by
        unfold cCompY; rw [e]
        show (match cCompL tm cYes me vs ws ds (wipeE ρ1 vs) with | .ok (ys, ρ2) => (.ok (.fr (.lst ys), ρ2) : R (Hd × Y.Env)) | .stk => .stk | .er _ _ => _) = _
        rw [e2]
      rw [this] at h; exact h.elim
    | ok p2 =>
      refine plain ?_
      unfold cCompY cComp
      rw [e]
      show (match cCompL tm cYes me vs ws ds (wipeE ρ1 vs) with | .ok (ys, ρ2) => (.ok (.fr (.lst ys), ρ2) : R (Hd × Y.Env)) | .stk => .stk | .er _ _ => _) = ((cCompL tm cYes me vs ws ds (wipeE ρ1 vs)).nox >>= fun q => R.ok (.fr (.lst q.1), q.2))
      rw [e2]
      rfl
    | er c0 xs0 =>
      have eq : cCompY im tm me vs ρ = (match cCompLX tm me vs ws ds (wipeE ρ1 vs) with | .er c xs => .er c xs | _ => .stk) := by
        unfold cCompY; rw [e]
        show (match cCompL tm cYes me vs ws ds (wipeE ρ1 vs) with | .ok (ys, ρ2) => (.ok (.fr (.lst ys), ρ2) : R (Hd × Y.Env)) | .stk => .stk | .er _ _ => _) = _
        rw [e2]
      rw [eq] at h
      cases e4 : cCompLX tm me vs ws ds (wipeE ρ1 vs) with
      | stk => rw [e4] at h; exact h.elim
      | ok q => rw [e4] at h; exact h.elim
      | er c xs =>
        rw [e4] at h
        have h : ∀ H', Keep W σ H H' → E c xs H' := h
        refine ⟨ρ, S, ?_⟩
        rw [e]
        intro J H1 Ok S1 k1 src ok hz Dn hD
        have src : Src K O W ds ws J Ok := src
        have hz : ds.length ≤ sizeLine := hz
        generalize hP : (fun b => P0 b ∨ b = Dn : Pr) = P1
        have pD : P1 Dn := by subst hP; exact .inr rfl
        have pO : ∀ b, P1 b → P0 b ∨ b = Dn := by subst hP; exact fun b z => z
        have S2 : Sim K P1 O W ρ1 σ (upd H1 Dn (.lst [])) := by subst hP; exact S1.more hD
        have ok2 : Ok P1 ρ1 σ (upd H1 Dn (.lst [])) := src.grow P0 _ ρ1 σ H1 _ S1 (fun b z => (pO b z).elim .inl fun z => .inr (by rw [z]; exact hD)) (Same.new hD) ok
        have wO : ∀ w ∈ ws, w ∉ vs := fun w hw z => ho w z (src.mem _ _ _ _ ok w hw)
        have sO : ∀ i ∈ O, (L2.wipe σ vs)[i]? = σ[i]? := fun i hi => wipe_ne fun y => ho i y hi
        have S3 : Sim K P1 O W (wipeE ρ1 vs) (L2.wipe σ vs) (upd H1 Dn (.lst [])) := S2.wipe2 ho
        have nD : ¬ OA O (L2.wipe σ vs) Dn := fun z => (S1.dom Dn (.inr ((OA_of sO Dn).mp z))).some hD
        have ok3 : Ok P1 (wipeE ρ1 vs) (L2.wipe σ vs) (upd H1 Dn (.lst [])) := src.keep P1 ρ1 σ _ _ _ _ S2 (fun _ _ e _ => e) (fun b z => .inl ((FA_of sO b).mp z)) (fun w hw => ⟨wipe_ne (wO w hw), by
          cases e : (wipeE ρ1 vs)[w]? with
          | none =>
            have : ρ1.length ≤ w := by rw [← wipeE_length ρ1 vs]; exact List.getElem?_eq_none_iff.mp e
            rw [List.getElem?_eq_none this]
          | some o =>
            have q2 : ∀ (is : List Nat), w ∉ is → (wipeE ρ1 is)[w]? = ρ1[w]? := fun is => by
              induction is with
              | nil => intro _; rfl
              | cons i is ih =>
                intro hn
                simp only [List.mem_cons, not_or] at hn
                unfold wipeE
                rw [List.getElem?_set_ne fun z => hn.1 z.symm]
                exact ih hn.2
            rw [← e, q2 vs (wO w hw)]⟩) ok2
        let I : Nat → Hp → Prop := fun i Hx => i ≤ ds.length ∧ ∃ (ρx : Y.Env) (acc : List V) (yd : List D), Sim K P1 O W ρx (L2.wipe σ vs) Hx ∧ Ok P1 ρx (L2.wipe σ vs) Hx ∧ Hx Dn = some (.lst acc) ∧ Reps K Hx yd (FA P1 O (L2.wipe σ vs)) acc ∧ acc.length ≤ i ∧
          cCompLX tm me vs ws (ds.drop i) ρx = .er c xs ∧ (∀ b o, H1 b = some o → ¬ OA W σ b → Hx b = some o) ∧ (∀ b, H1 b ≠ none → Hx b ≠ none)
        refine ⟨fun i m Hx => m = ds.length - i ∧ I i Hx, ⟨ds.length, by simp, Nat.zero_le _, wipeE ρ1 vs, [], [], S3, ok3, upd_same, Reps.nil, Nat.le_refl _, e4, fun b o e _ => Same.new hD b o e, fun b e => Same.some (Same.new hD) b e⟩, ?_⟩
        rintro i m Hx ⟨rfl, hi, ρx, acc, yd, Sx, okx, hDx, hR, hacc, hC, kx, sx⟩
        have hlt : i < ds.length := by
          apply Nat.lt_of_not_le
          intro z
          rw [List.drop_of_length_le z] at hC
          cases hC
        right
        refine ⟨src.go P1 i ρx _ Hx Sx okx hlt, I (i + 1), fun H' p' => ⟨ds.length - (i + 1), by omega, rfl, p'⟩, fun x' H' y => ?_⟩
        obtain ⟨sm, rx⟩ := src.yld P1 i ρx _ Hx x' H' ds[i] Sx okx (List.getElem?_eq_getElem hlt) y
        rw [List.drop_eq_getElem_cons hlt] at hC
        have back : ∀ {σ2 : L2.St}, σ2.length = (L2.wipe σ vs).length → (∀ j, j ∉ is → σ2[j]? = (L2.wipe σ vs)[j]?) → L2.wipe σ2 vs = L2.wipe σ vs ∧ ∀ j ∈ O, σ2[j]? = (L2.wipe σ vs)[j]? := fun {σ2} h1 h2 =>
          ⟨(wipe_same h1 fun j hj => h2 j fun z => hj (hv j z)).trans wipe_idem, fun j hj => h2 j fun z => ho j (hv j z) hj⟩
        cases erX_step hC with
        | here ρa g1 g2 =>
          refine ⟨P1, ρx, ds[i], ρa, Sx.same sm, rx, g1, fun σ2 Sa h1 h2 => ⟨(back h1 h2).1, P1, ρa, Sa, ?_⟩⟩
          show Res E00 W σ2 H' (R.ok (true, ρa)) _
          intro H3 Sb k3
          refine (if_pos rfl).mpr ⟨P1, ρa, Sb, ?_⟩
          rw [g2]
          intro H4 k4
          have b2 := (back h1 h2).2
          have oa : ∀ b, OA W σ2 b → OA W σ b := fun b z => (OA_of (fun i hi => sO i (S1.sub i hi)) b).mp ((OA_of (fun i hi => b2 i (S1.sub i hi)) b).mp z)
          refine h H4 ⟨fun b o eb n => ?_, fun b eb => ?_⟩
          · have n1 := k1.keep b o eb n
            exact k4.keep b o (k3.keep b o (sm b o (kx b o n1 n)) fun z => n (oa b z)) fun z => n (oa b z)
          · exact k4.some b (k3.some b (Same.some sm b (sx b (k1.some b eb))))
        | on ρa ρc hd d g1 g2 g3 g4 g5 =>
          refine ⟨P1, ρx, ds[i], ρa, Sx.same sm, rx, g1, fun σ2 Sa h1 h2 => ⟨(back h1 h2).1, P1, ρa, Sa, ?_⟩⟩
          show Res E00 W σ2 H' (R.ok (true, ρa)) _
          intro H3 Sb k3
          refine (if_pos rfl).mpr ⟨P1, ρa, Sb, ?_⟩
          rw [g2]
          intro y' H4 Sc k4 r4
          obtain ⟨b1, b2⟩ := back h1 h2
          have nD2 : ¬ OA O σ2 Dn := fun z => nD ((OA_of b2 Dn).mp z)
          have k34 : Keep W σ2 H' H4 := k3.trans k4
          refine ⟨acc, k34.keep _ _ (sm _ _ hDx) fun z => nD2 (Sc.oaw z), by omega, ?_⟩
          have r5 : Reps K H4 yd (FA P1 O σ2) acc := hR.mono yd Sx.dom (fun b o e n => k34.keep b o (sm b o e) fun z => n (.inr ((OA_of b2 b).mp (Sc.oaw z)))) fun b z => .inl ((FA_of b2 b).mp z)
          have r6 : Reps K H4 (yd ++ [d]) (FA P1 O σ2) (acc ++ [y']) := r5.append (Reps.cons (r4.v g3) Reps.nil)
          have S5 := Sc.wipe2 (is := vs) ho
          rw [b1] at S5
          have S6 := S5.wr (o := .lst (acc ++ [y'])) pD trivial
          have kp : ∀ b o, Hx b = some o → ¬ FA P1 O (L2.wipe σ vs) b → upd H4 Dn (.lst (acc ++ [y'])) b = some o := fun b o e n => by
            rw [upd_ne fun z => n (.inl (by rw [z]; exact pD))]
            exact k34.keep b o (sm b o e) fun z => n (.inr ((OA_of b2 b).mp (Sc.oaw z)))
          refine ⟨hlt, wipeE ρc vs, acc ++ [y'], yd ++ [d], S6, src.keep P1 ρx _ Hx _ _ _ Sx kp (fun b z => .inl z) (fun w hw' => ⟨rfl, (chk_ok g4) w hw'⟩) okx, upd_same, ?_, by simp; omega, g5, fun b o e n => ?_, fun b e => ?_⟩
          · refine r6.mono _ Sc.dom (fun b o e n => ?_) fun b z => .inl ((FA_of b2 b).mpr z)
            rw [upd_ne fun z => n (.inl (by rw [z]; exact pD))]
            exact e
          · have hb : b ≠ Dn := ne_of_none e hD
            rw [upd_ne hb]
            exact k34.keep b o (sm b o (kx b o e n)) fun z => n ((OA_of (fun i hi => sO i (S1.sub i hi)) b).mp ((OA_of (fun i hi => b2 i (S1.sub i hi)) b).mp z))
          · by_cases hb : b = Dn
            · rw [hb, upd_same]; intro z; cases z
            · rw [upd_ne hb]
              exact k34.some b (Same.some sm b (sx b e))
end
section
variable {X : Cx} {P0 : Pr} {O W : List Nat} {E : EK} {XE : XK} {tg : Expr} {pos : Pos}
theorem ce_compY {elt iter : Expr} {scope : Scope} {own : List (Str × Nat)} {im : IM} {tm : GM} {me : EM} {is : List Nat}
    (hs0 : X.stack = X.env :: X.outer) (hf : X.env.frame = some X.env.locals) (tk : L2N.Takes X (fun cls d _ H => XE cls d H)) (o : Out2 X E XE)
    (hc : X.calm = true) (hN : X.N.Nodup) (hi : CI X P0 O W E tg iter im) (ok : BlkOk X.N X.env.scope scope own)
    (hg : ∀ (P0 : Pr) (s : Shared) (H : Hp) (C : Addr) (cl : List (Str × Addr)) (fp : List Addr), CG (X.blk s H scope (compEnvC scope cl C X.env) fp) P0 O W tg tm is)
    (he : ∀ (P0 : Pr) (s : Shared) (H : Hp) (C : Addr) (cl : List (Str × Addr)) (fp : List Addr) (E' : Value → Shared → Prop), Out2 ((X.blk s H scope (compEnvC scope cl C X.env) fp).wish E') E XE → CEx ((X.blk s H scope (compEnvC scope cl C X.env) fp).wish E') P0 O W E elt me)
    (hv : ∀ i ∈ is, i ∈ own.map (·.2) := by decide) (ho : ∀ i ∈ own.map (·.2), i ∉ O := by decide) (hs : ∀ x, foldedSetIterable iter X.env x = pure x := by intro _; rfl) :
    CEx X P0 O W E (.ListComp elt [⟨tg, iter, [], 0⟩] scope pos) (cCompY im tm me (own.map (·.2))) :=
  PE.imp (pe_lcX hs0 hf tk hc hN hi ok (fun s H C cl fp => PG.ex fun P0 => hg P0 s H C cl fp) (fun s H C cl fp => cts_nil) (fun s H C cl fp E' ps => PE.ex fun P0 => he P0 s H C cl fp E' ⟨ps, o.ex⟩) hs) (comp_coreY hv ho)
end
@[simp] theorem e_compY {im : IM} {tm : GM} {e : EM} {vs : List Nat} {ρ : Y.Env} : cCompY im tm e vs ρ = (im ρ >>= fun p => match cCompL tm cYes e vs p.1.2 p.1.1 (wipeE p.2 vs) with
  | .ok (ys, ρ2) => .ok (.fr (.lst ys), ρ2)
  | .stk => .stk
  | .er _ _ => match cCompLX tm e vs p.1.2 p.1.1 (wipeE p.2 vs) with
    | .er c xs => .er c xs
    | _ => .stk) := by
  unfold cCompY; rfl
end Y

set_option Elab.async false
set_option linter.all false
set_option maxRecDepth 100000
namespace C
open PySem PySem.Spec PyProof.Rows L2 Y
/-- slots: 0:thing -/
noncomputable def m_is_whole : SM := sRet (cAnd (cIsi isInt (cVar 0)) (cNot (cIsi isBl (cVar 0))))
noncomputable def g_is_whole : List D → R Hd := fnP 1 1 m_is_whole
/-- slots: 0:thing 1:many -/
noncomputable def m_is_upto : SM := sRet (cAnd (cCallF g_is_whole (cCons (cVar 0) (cNil))) (cChain leD ltD (cC (.int 0)) (cVar 0) (cVar 1)))
noncomputable def g_is_upto : List D → R Hd := fnP 2 2 m_is_upto
/-- slots: 0:thing 1:many 2:one -/
noncomputable def e_are_bits_1 : EM := cCallF g_is_upto (cCons (cVar 2) (cCons (cC (.int 2)) (cNil)))
noncomputable def m_are_bits : SM := sRet (cAnd (cIsi isTup (cVar 0)) (cAnd (cOp eqD (cCall lenD (cCons (cVar 0) (cNil))) (cVar 1)) (cCall allD (cCons (cComp (cIter (cVar 0)) (tmName 2) (cYes) (e_are_bits_1) [2]) (cNil)))))
noncomputable def g_are_bits : List D → R Hd := fnP 2 3 m_are_bits
/-- slots: 0:many 1:found 2:k 3:stand -/
noncomputable def e_stands_of_1 : EM := cOp addD (cTup (cCons (cC (.int 0)) (cNil))) (cVar 3)
noncomputable def e_stands_of_2 : EM := cOp addD (cTup (cCons (cC (.int 1)) (cNil))) (cVar 3)
noncomputable def b_stands_of_1 : SM := sAsg (cOp addD (cComp (cIter (cVar 1)) (tmName 3) (cYes) (e_stands_of_1) [3]) (cComp (cIter (cVar 1)) (tmName 3) (cYes) (e_stands_of_2) [3])) (tmName 1)
noncomputable def m_stands_of : SM := sSeq (sAsg (cLst (cCons (cTup (cNil)) (cNil))) (tmName 1)) (sSeq (sFor [] (cRange rng1D (cCons (cVar 0) (cNil))) (tmName 2) (b_stands_of_1) [2]) (sRet (cVar 1)))
noncomputable def g_stands_of : List D → R Hd := fnP 1 4 m_stands_of
/-- slots: 0:script 1:k -/
noncomputable def m__law_cell : SM := sSeq (sIf (cBl (cOp ltD (cVar 1) (cCall lenD (cCons (cVar 0) (cNil))))) (sRet (cIx (cVar 0) (cVar 1))) (sSkip)) (sRet (cOp addD (cOp mulD (cC (.int 6151)) (cVar 1)) (cC (.int 29))))
noncomputable def g__law_cell : List D → R Hd := fnP 2 2 m__law_cell
/-- slots: 0:script 1:k 2:cell 3:number 4:mixed 5:j -/
noncomputable def b__law_box_2_1 : SM := sSeq (sAsg (cOp modD (cOp addD (cOp addD (cOp addD (cOp mulD (cVar 4) (cC (.int 48271))) (cOp mulD (cOp mulD (cC (.int 7)) (cVar 5)) (cVar 5))) (cOp mulD (cC (.int 11)) (cVar 1))) (cC (.int 1))) (cC (.int 2147483647))) (tmName 4)) (sAsg (cOp addD (cOp mulD (cVar 3) (cC (.int 2147483647))) (cVar 4)) (tmName 3))
noncomputable def m__law_box_2 : SM := sSeq (sAsg (cCallF g__law_cell (cCons (cVar 0) (cCons (cVar 1) (cNil)))) (tmName 2)) (sSeq (sIf (cBl (cOp eqD (cOp modD (cVar 2) (cC (.int 2))) (cC (.int 0)))) (sRet (cLst (cCons (cOp fdivD (cVar 2) (cC (.int 2))) (cNil)))) (sSkip)) (sSeq (sAsg (cC (.int 0)) (tmName 3)) (sSeq (sAsg (cOp modD (cVar 2) (cC (.int 2147483647))) (tmName 4)) (sSeq (sFor [] (cRange rng1D (cCons (cC (.int 24)) (cNil))) (tmName 5) (b__law_box_2_1) [5]) (sRet (cLst (cCons (cVar 3) (cNil))))))))
noncomputable def g__law_box_2 : List D → R Hd := fnP 2 6 m__law_box_2
/-- slots: 0:box 1:many 2:digit -/
noncomputable def m__law_take_2 : SM := sSeq (sAsg (cOp modD (cIx (cOwn 0) (cC (.int 0))) (cVar 1)) (tmName 2)) (sSeq (sSetIx 0 (cC (.int 0)) (cOp fdivD (cIx (cOwn 0) (cC (.int 0))) (cVar 1))) (sRet (cVar 2)))
noncomputable def g__law_take_2 : Fn := fnD 2 3 [0] m__law_take_2
/-- slots: 0:many 1:found 2:k 3:row -/
noncomputable def e__law_readings_1 : EM := cOp addD (cVar 3) (cTup (cCons (cC (.int 0)) (cNil)))
noncomputable def e__law_readings_2 : EM := cOp addD (cVar 3) (cTup (cCons (cC (.int 1)) (cNil)))
noncomputable def b__law_readings_1 : SM := sAsg (cOp addD (cComp (cIter (cVar 1)) (tmName 3) (cYes) (e__law_readings_1) [3]) (cComp (cIter (cVar 1)) (tmName 3) (cYes) (e__law_readings_2) [3])) (tmName 1)
noncomputable def m__law_readings : SM := sSeq (sAsg (cLst (cCons (cTup (cNil)) (cNil))) (tmName 1)) (sSeq (sFor [] (cRange rng1D (cCons (cVar 0) (cNil))) (tmName 2) (b__law_readings_1) [2]) (sRet (cCall sortD (cCons (cVar 1) (cNil)))))
noncomputable def g__law_readings : List D → R Hd := fnP 1 4 m__law_readings
/-- slots: 0:box 1:many 2:left 3:ears 4:k 5:rows 6:way 7:signs 8:least 9:table 10:ear 11:row -/
noncomputable def b__law_rule_2_1 : SM := sAppend 3 (cPopAt 2 (cCallIO [(0, 0)] g__law_take_2 (cCons (cOwn 0) (cCons (cCall lenD (cCons (cOwn 2) (cNil))) (cNil)))))
noncomputable def e__law_rule_2_1 : EM := cCallIO [(0, 0)] g__law_take_2 (cCons (cOwn 0) (cCons (cC (.int 2)) (cNil)))
noncomputable def e__law_rule_2_2 : EM := cC (.int 1)
noncomputable def e__law_rule_2_3 : EM := cCallIO [(0, 0)] g__law_take_2 (cCons (cOwn 0) (cCons (cC (.int 2)) (cNil)))
noncomputable def t__law_rule_2_4 : BM := cBl (cOp eqD (cIx (cVar 11) (cVar 4)) (cIx (cVar 7) (cVar 4)))
noncomputable def e__law_rule_2_4 : EM := cVar 4
noncomputable def e__law_rule_2_5 : EM := cCall intOfD (cCons (cOp geD (cCall lenD (cCons (cComp (cRange rng1D (cCons (cCall lenD (cCons (cOwn 3) (cNil))) (cNil))) (tmName 4) (t__law_rule_2_4) (e__law_rule_2_4) [4]) (cNil))) (cVar 8)) (cNil))
noncomputable def m__law_rule_2 : SM := sSeq (sOwn [0, 2, 3] [0, 2] (cRg1 true (cVar 1)) 2) (sSeq (sOwn [0, 2, 3] [0, 2] (cLst (cNil)) 3) (sSeq (sFor [0] (cRange rng1D (cCons (cCall min2D (cCons (cCallIO [(0, 0)] g__law_take_2 (cCons (cOwn 0) (cCons (cC (.int 5)) (cNil)))) (cCons (cVar 1) (cNil)))) (cNil))) (tmName 4) (b__law_rule_2_1) []) (sSeq (sAsg (cCallF g__law_readings (cCons (cCall lenD (cCons (cOwn 3) (cNil))) (cNil))) (tmName 5)) (sSeq (sAsg (cCallIO [(0, 0)] g__law_take_2 (cCons (cOwn 0) (cCons (cC (.int 3)) (cNil)))) (tmName 6)) (sSeq (sIf (cBl (cOp eqD (cVar 6) (cC (.int 0)))) (sRet (cTup (cCons (cCall tupleD (cCons (cCall sortD (cCons (cOwn 3) (cNil))) (cNil))) (cCons (cCall tupleD (cCons (cComp (cIter (cVar 5)) (tmName 11) (cYes) (e__law_rule_2_1) [11]) (cNil))) (cNil))))) (sSkip)) (sSeq (sAsg (cComp (cIter (cOwn 3)) (tmName 10) (cYes) (e__law_rule_2_2) [10]) (tmName 7)) (sSeq (sIf (cBl (cOp eqD (cVar 6) (cC (.int 1)))) (sAsg (cComp (cIter (cOwn 3)) (tmName 10) (cYes) (e__law_rule_2_3) [10]) (tmName 7)) (sSkip)) (sSeq (sAsg (cCallIO [(0, 0)] g__law_take_2 (cCons (cOwn 0) (cCons (cOp addD (cCall lenD (cCons (cOwn 3) (cNil))) (cC (.int 2))) (cNil)))) (tmName 8)) (sSeq (sAsg (cComp (cIter (cVar 5)) (tmName 11) (cYes) (e__law_rule_2_5) [11]) (tmName 9)) (sRet (cTup (cCons (cCall tupleD (cCons (cCall sortD (cCons (cOwn 3) (cNil))) (cNil))) (cCons (cCall tupleD (cCons (cVar 9) (cNil))) (cNil))))))))))))))
noncomputable def g__law_rule_2 : Fn := fnD 2 12 [0] m__law_rule_2
/-- slots: 0:things 1:many 2:found 3:at 4:rest -/
noncomputable def e_picked_1 (G : List D → R Hd) : EM := cOp addD (cTup (cCons (cIx (cVar 0) (cVar 3)) (cNil))) (cVar 4)
noncomputable def b_picked_1 (G : List D → R Hd) : SM := sExt 2 (cComp (cIter (cCallF G (cCons (cSlice (cVar 0) (cPart (cOp addD (cVar 3) (cC (.int 1)))) (cNoPart)) (cCons (cOp subD (cVar 1) (cC (.int 1))) (cNil))))) (tmName 4) (cYes) (e_picked_1 G) [4])
noncomputable def m_picked (G : List D → R Hd) : SM := sSeq (sIf (cBl (cOp eqD (cVar 1) (cC (.int 0)))) (sRet (cLst (cCons (cTup (cNil)) (cNil)))) (sSkip)) (sSeq (sOwn [2] [] (cLst (cNil)) 2) (sSeq (sFor [] (cRange rng1D (cCons (cCall lenD (cCons (cVar 0) (cNil))) (cNil))) (tmName 3) ((b_picked_1 G)) [3]) (sRet (cOwn 2))))
noncomputable def r_picked : Nat → List D → R Hd
  | 0 => fnP 2 5 (fun _ => .stk)
  | n + 1 => fnP 2 5 (m_picked (r_picked n))
noncomputable def g_picked : List D → R Hd := r_picked 40
/-- slots: 0:net 1:stand 2:k 3:ears 4:table 5:place 6:ear -/
noncomputable def b__law_told_1 : SM := sAsg (cOp addD (cOp mulD (cC (.int 2)) (cVar 5)) (cIx (cVar 1) (cVar 6))) (tmName 5)
noncomputable def m__law_told : SM := sSeq (sAsg (cIx (cVar 0) (cVar 2)) (tmTup [3, 4])) (sSeq (sAsg (cC (.int 0)) (tmName 5)) (sSeq (sFor [] (cIter (cVar 3)) (tmName 6) (b__law_told_1) [6]) (sRet (cIx (cVar 4) (cVar 5)))))
noncomputable def g__law_told : List D → R Hd := fnP 3 7 m__law_told
/-- slots: 0:thing -/
noncomputable def m__law_whole_2 : SM := sRet (cAnd (cIsi isInt (cVar 0)) (cNot (cIsi isBl (cVar 0))))
noncomputable def g__law_whole_2 : List D → R Hd := fnP 1 1 m__law_whole_2
/-- slots: 0:box 1:most 2:many 3:k -/
noncomputable def e__law_net_2_1 : EM := cCallIO [(0, 0)] g__law_rule_2 (cCons (cOwn 0) (cCons (cVar 2) (cNil)))
noncomputable def m__law_net_2 : SM := sSeq (sAsg (cOp addD (cC (.int 1)) (cCallIO [(0, 0)] g__law_take_2 (cCons (cOwn 0) (cCons (cVar 1) (cNil))))) (tmName 2)) (sRet (cCall tupleD (cCons (cComp (cRange rng1D (cCons (cVar 2) (cNil))) (tmName 3) (cYes) (e__law_net_2_1) [3]) (cNil))))
noncomputable def g__law_net_2 : Fn := fnD 2 4 [0] m__law_net_2
/-- slots: 0:thing 1:many 2:one -/
noncomputable def e__law_bits_2_1 : EM := cAnd (cIsi isInt (cVar 2)) (cAnd (cNot (cIsi isBl (cVar 2))) (cOp inD (cVar 2) (cTup (cCons (cC (.int 0)) (cCons (cC (.int 1)) (cNil))))))
noncomputable def m__law_bits_2 : SM := sSeq (sIf (cOrT (cNotT (cTru (cIsi isTup (cVar 0)))) (cBl (cOp neD (cCall lenD (cCons (cVar 0) (cNil))) (cVar 1)))) (sRet (cC (.bl false))) (sSkip)) (sRet (cCall allD (cCons (cComp (cIter (cVar 0)) (tmName 2) (cYes) (e__law_bits_2_1) [2]) (cNil))))
noncomputable def g__law_bits_2 : List D → R Hd := fnP 2 3 m__law_bits_2
/-- slots: 0:many 1:thing 2:stand 3:switch 4:bit -/
noncomputable def m_is_sight : SM := sSeq (sIf (cOrT (cNotT (cTru (cIsi isTup (cVar 1)))) (cBl (cOp neD (cCall lenD (cCons (cVar 1) (cNil))) (cC (.int 3))))) (sRet (cC (.bl false))) (sSkip)) (sSeq (sAsg (cVar 1) (tmTup [2, 3, 4])) (sRet (cAnd (cCallF g_are_bits (cCons (cVar 2) (cCons (cVar 0) (cNil)))) (cAnd (cCallF g_is_upto (cCons (cVar 3) (cCons (cVar 0) (cNil)))) (cCallF g_is_upto (cCons (cVar 4) (cCons (cC (.int 2)) (cNil))))))))
noncomputable def g_is_sight : List D → R Hd := fnP 2 5 m_is_sight
/-- slots: 0:many 1:seen 2:one -/
noncomputable def e_need_seen_1 : EM := cCallF g_is_sight (cCons (cVar 0) (cCons (cVar 2) (cNil)))
noncomputable def m_need_seen : SM := sIf (cOrT (cNotT (cTru (cIsi isLst (cVar 1)))) (cOrT (cBl (cOp gtD (cCall lenD (cCons (cVar 1) (cNil))) (cC (.int 200)))) (cNotT (cTru (cCall allD (cCons (cComp (cIter (cVar 1)) (tmName 2) (cYes) (e_need_seen_1) [2]) (cNil))))))) (sRaise "NoSeen") (sSkip)
noncomputable def g_need_seen : List D → R Hd := fnP 2 3 m_need_seen
/-- slots: 0:box 1:net 2:most 3:found 4:turn 5:stand 6:at 7:k 8:one -/
noncomputable def e__law_sights_1 : EM := cCallIO [(0, 0)] g__law_take_2 (cCons (cOwn 0) (cCons (cC (.int 2)) (cNil)))
noncomputable def b__law_sights_1 : SM := sSeq (sAsg (cCall tupleD (cCons (cComp (cIter (cVar 1)) (tmName 8) (cYes) (e__law_sights_1) [8]) (cNil))) (tmName 5)) (sSeq (sIf (cAndT (cBl (cOp neD (cOwn 3) (cLst (cNil)))) (cBl (cOp eqD (cCallIO [(0, 0)] g__law_take_2 (cCons (cOwn 0) (cCons (cC (.int 3)) (cNil)))) (cC (.int 1))))) (sSeq (sAsg (cIx (cIx (cOwn 3) (cCallIO [(0, 0)] g__law_take_2 (cCons (cOwn 0) (cCons (cCall lenD (cCons (cOwn 3) (cNil))) (cNil))))) (cC (.int 0))) (tmName 5)) (sSeq (sAsg (cCallIO [(0, 0)] g__law_take_2 (cCons (cOwn 0) (cCons (cCall lenD (cCons (cVar 1) (cNil))) (cNil)))) (tmName 6)) (sAsg (cOp addD (cOp addD (cSlice (cVar 5) (cNoPart) (cPart (cVar 6))) (cTup (cCons (cOp subD (cC (.int 1)) (cIx (cVar 5) (cVar 6))) (cNil)))) (cSlice (cVar 5) (cPart (cOp addD (cVar 6) (cC (.int 1)))) (cNoPart))) (tmName 5)))) (sSkip)) (sSeq (sAsg (cOp modD (cCallIO [(0, 0)] g__law_take_2 (cCons (cOwn 0) (cCons (cCall lenD (cCons (cVar 1) (cNil))) (cNil)))) (cOp addD (cC (.int 1)) (cCallIO [(0, 0)] g__law_take_2 (cCons (cOwn 0) (cCons (cCall lenD (cCons (cVar 1) (cNil))) (cNil)))))) (tmName 7)) (sAppend 3 (cTup (cCons (cVar 5) (cCons (cVar 7) (cCons (cCallF g__law_told (cCons (cVar 1) (cCons (cVar 5) (cCons (cVar 7) (cNil))))) (cNil))))))))
noncomputable def m__law_sights : SM := sSeq (sOwn [0, 3] [0] (cLst (cNil)) 3) (sSeq (sFor [0] (cRange rng1D (cCons (cCallIO [(0, 0)] g__law_take_2 (cCons (cOwn 0) (cCons (cOp addD (cVar 2) (cC (.int 1))) (cNil)))) (cNil))) (tmName 4) (b__law_sights_1) [4, 5, 6, 7]) (sRet (cOwn 3)))
noncomputable def g__law_sights : Fn := fnD 3 9 [0] m__law_sights
/-- slots: 0:many 1:seen 2:one -/
noncomputable def b__law_is_seen_1 : SM := sSeq (sIf (cOrT (cNotT (cTru (cIsi isTup (cVar 2)))) (cOrT (cBl (cOp neD (cCall lenD (cCons (cVar 2) (cNil))) (cC (.int 3)))) (cOrT (cNotT (cTru (cCallF g__law_bits_2 (cCons (cIx (cVar 2) (cC (.int 0))) (cCons (cVar 0) (cNil)))))) (cNotT (cTru (cCallF g__law_bits_2 (cCons (cSlice (cVar 2) (cPart (cC (.int 2))) (cNoPart)) (cCons (cC (.int 1)) (cNil))))))))) (sRet (cC (.bl false))) (sSkip)) (sIf (cOrT (cNotT (cTru (cCallF g__law_whole_2 (cCons (cIx (cVar 2) (cC (.int 1))) (cNil))))) (cNotT (cBl (cChain leD ltD (cC (.int 0)) (cIx (cVar 2) (cC (.int 1))) (cVar 0))))) (sRet (cC (.bl false))) (sSkip))
noncomputable def m__law_is_seen : SM := sSeq (sIf (cOrT (cNotT (cTru (cIsi isLst (cVar 1)))) (cBl (cOp gtD (cCall lenD (cCons (cVar 1) (cNil))) (cC (.int 200))))) (sRet (cC (.bl false))) (sSkip)) (sSeq (sFor [] (cIter (cVar 1)) (tmName 2) (b__law_is_seen_1) [2]) (sRet (cC (.bl true))))
noncomputable def g__law_is_seen : List D → R Hd := fnP 2 3 m__law_is_seen
/-- slots: 0:box 1:seen 2:many 3:at 4:stand 5:k 6:bit 7:some -/
noncomputable def m__law_spoilt : SM := sSeq (sIf (cBl (cOp eqD (cVar 1) (cLst (cNil)))) (sRet (cLst (cCons (cTup (cCons (cOp mulD (cTup (cCons (cC (.int 0)) (cNil))) (cVar 2)) (cCons (cVar 2) (cCons (cC (.int 0)) (cNil))))) (cNil)))) (sSkip)) (sSeq (sAsg (cCallIO [(0, 0)] g__law_take_2 (cCons (cOwn 0) (cCons (cCall lenD (cCons (cVar 1) (cNil))) (cNil)))) (tmName 3)) (sSeq (sAsg (cIx (cVar 1) (cVar 3)) (tmTup [4, 5, 6])) (sSeq (sAsg (cLst (cCons (cTup (cCons (cVar 4) (cCons (cVar 5) (cCons (cOp subD (cC (.int 1)) (cVar 6)) (cNil))))) (cCons (cTup (cCons (cVar 4) (cCons (cVar 5) (cCons (cC (.int 2)) (cNil))))) (cCons (cTup (cCons (cVar 4) (cCons (cVar 2) (cCons (cVar 6) (cNil))))) (cCons (cTup (cCons (cSlice (cVar 4) (cPart (cC (.int 1))) (cNoPart)) (cCons (cVar 5) (cCons (cVar 6) (cNil))))) (cCons (cTup (cCons (cCall listD (cCons (cVar 4) (cNil))) (cCons (cVar 5) (cCons (cVar 6) (cNil))))) (cNil))))))) (tmName 7)) (sSeq (sAsg (cOp addD (cVar 7) (cLst (cCons (cLst (cCons (cVar 4) (cCons (cVar 5) (cCons (cVar 6) (cNil))))) (cCons (cTup (cCons (cVar 4) (cCons (cCall boolOfD (cCons (cVar 5) (cNil))) (cCons (cVar 6) (cNil))))) (cCons (cTup (cCons (cVar 4) (cCons (cVar 5) (cCons (cCall boolOfD (cCons (cVar 6) (cNil))) (cNil))))) (cCons (cTup (cCons (cVar 4) (cCons (cVar 5) (cNil)))) (cCons (cTup (cCons (cVar 4) (cCons (cNeg (cC (.int 1))) (cCons (cVar 6) (cNil))))) (cNil)))))))) (tmName 7)) (sRet (cOp addD (cOp addD (cSlice (cVar 1) (cNoPart) (cPart (cVar 3))) (cLst (cCons (cIx (cVar 7) (cCallIO [(0, 0)] g__law_take_2 (cCons (cOwn 0) (cCons (cC (.int 10)) (cNil))))) (cNil)))) (cSlice (cVar 1) (cPart (cOp addD (cVar 3) (cC (.int 1)))) (cNoPart))))))))
noncomputable def g__law_spoilt : Fn := fnD 3 8 [0] m__law_spoilt
/-- slots: 0:many 1:size 2:found 3:last 4:rest -/
noncomputable def e__law_subsets_1 (G : List D → R Hd) : EM := cOp addD (cVar 4) (cLst (cCons (cVar 3) (cNil)))
noncomputable def b__law_subsets_1 (G : List D → R Hd) : SM := sAsg (cOp addD (cVar 2) (cComp (cIter (cCallF G (cCons (cVar 3) (cCons (cOp subD (cVar 1) (cC (.int 1))) (cNil))))) (tmName 4) (cYes) (e__law_subsets_1 G) [4])) (tmName 2)
noncomputable def m__law_subsets (G : List D → R Hd) : SM := sSeq (sIf (cBl (cOp eqD (cVar 1) (cC (.int 0)))) (sRet (cLst (cCons (cLst (cNil)) (cNil)))) (sSkip)) (sSeq (sAsg (cLst (cNil)) (tmName 2)) (sSeq (sFor [] (cRange rng1D (cCons (cVar 0) (cNil))) (tmName 3) ((b__law_subsets_1 G)) [3]) (sRet (cCall sortGD (cCons (cVar 2) (cNil))))))
noncomputable def r__law_subsets : Nat → List D → R Hd
  | 0 => fnP 2 5 (fun _ => .stk)
  | n + 1 => fnP 2 5 (m__law_subsets (r__law_subsets n))
noncomputable def g__law_subsets : List D → R Hd := r__law_subsets 40
/-- slots: 0:many 1:seen 2:one 3:other -/
noncomputable def b_first_clash_1 : SM := sIf (cAndT (cBl (cOp eqD (cSlice (cIx (cVar 1) (cVar 2)) (cNoPart) (cPart (cC (.int 2)))) (cSlice (cIx (cVar 1) (cVar 3)) (cNoPart) (cPart (cC (.int 2)))))) (cBl (cOp neD (cIx (cIx (cVar 1) (cVar 2)) (cC (.int 2))) (cIx (cIx (cVar 1) (cVar 3)) (cC (.int 2)))))) (sRet (cTup (cCons (cVar 2) (cCons (cVar 3) (cNil))))) (sSkip)
noncomputable def b_first_clash_2 : SM := sFor [] (cRange rng2D (cCons (cOp addD (cVar 2) (cC (.int 1))) (cCons (cCall lenD (cCons (cVar 1) (cNil))) (cNil)))) (tmName 3) (b_first_clash_1) [3]
noncomputable def m_first_clash : SM := sSeq (sExpr (cCallF g_need_seen (cCons (cVar 0) (cCons (cVar 1) (cNil))))) (sSeq (sFor [] (cRange rng1D (cCons (cCall lenD (cCons (cVar 1) (cNil))) (cNil))) (tmName 2) (b_first_clash_2) [2, 3]) (sRet (cC .non)))
noncomputable def g_first_clash : List D → R Hd := fnP 2 4 m_first_clash
/-- slots: 0:many 1:seen -/
noncomputable def m_need_no_clash : SM := sIf (cBl (cOp isNotD (cCallF g_first_clash (cCons (cVar 0) (cCons (cVar 1) (cNil)))) (cC .non))) (sRaise "NoSeen") (sSkip)
noncomputable def g_need_no_clash : List D → R Hd := fnP 2 2 m_need_no_clash
/-- slots: 0:seen 1:switch 2:thing 3:one 4:other 5:place -/
noncomputable def e_is_pair_1 : EM := cCallF g_is_upto (cCons (cVar 3) (cCons (cCall lenD (cCons (cVar 0) (cNil))) (cNil)))
noncomputable def e_is_pair_2 : EM := cIx (cVar 0) (cVar 5)
noncomputable def m_is_pair : SM := sSeq (sIf (cOrT (cNotT (cTru (cIsi isTup (cVar 2)))) (cOrT (cBl (cOp neD (cCall lenD (cCons (cVar 2) (cNil))) (cC (.int 2)))) (cNotT (cTru (cCall allD (cCons (cComp (cIter (cVar 2)) (tmName 3) (cYes) (e_is_pair_1) [3]) (cNil))))))) (sRet (cC (.bl false))) (sSkip)) (sSeq (sAsg (cComp (cIter (cVar 2)) (tmName 5) (cYes) (e_is_pair_2) [5]) (tmLst [3, 4])) (sRet (cAnd (cOp eqD (cIx (cVar 3) (cC (.int 1))) (cVar 1)) (cAnd (cOp eqD (cIx (cVar 4) (cC (.int 1))) (cVar 1)) (cOp neD (cIx (cVar 3) (cC (.int 2))) (cIx (cVar 4) (cC (.int 2))))))))
noncomputable def g_is_pair : List D → R Hd := fnP 3 6 m_is_pair
/-- slots: 0:seen 1:pair 2:one 3:other 4:place 5:switch -/
noncomputable def e_unlike_in_1 : EM := cIx (cIx (cVar 0) (cVar 4)) (cC (.int 0))
noncomputable def t_unlike_in_2 : BM := cBl (cOp neD (cIx (cVar 2) (cVar 5)) (cIx (cVar 3) (cVar 5)))
noncomputable def e_unlike_in_2 : EM := cVar 5
noncomputable def m_unlike_in : SM := sSeq (sAsg (cComp (cIter (cVar 1)) (tmName 4) (cYes) (e_unlike_in_1) [4]) (tmLst [2, 3])) (sRet (cCall tupleD (cCons (cComp (cRange rng1D (cCons (cCall lenD (cCons (cVar 2) (cNil))) (cNil))) (tmName 5) (t_unlike_in_2) (e_unlike_in_2) [5]) (cNil))))
noncomputable def g_unlike_in : List D → R Hd := fnP 2 6 m_unlike_in
/-- slots: 0:many 1:sets 2:size 3:some 4:one 5:switch -/
noncomputable def e_least_through_1 : EM := cOp inD (cVar 5) (cVar 4)
noncomputable def e_least_through_2 : EM := cCall anyD (cCons (cComp (cIter (cVar 3)) (tmName 5) (cYes) (e_least_through_1) [5]) (cNil))
noncomputable def b_least_through_1 : SM := sIf (cTru (cCall allD (cCons (cComp (cIter (cVar 1)) (tmName 4) (cYes) (e_least_through_2) [4]) (cNil)))) (sRet (cVar 2)) (sSkip)
noncomputable def b_least_through_2 : SM := sSeq (sFor [] (cIter (cCallF g_picked (cCons (cRg1 true (cVar 0)) (cCons (cVar 2) (cNil))))) (tmName 3) (b_least_through_1) [3]) (sAug (fun i j => i + j) 2 (cC (.int 1)))
noncomputable def m_least_through : SM := sSeq (sAsg (cC (.int 0)) (tmName 2)) (sWhile (cTru (cC (.bl true))) (b_least_through_2) [3])
noncomputable def g_least_through : List D → R Hd := fnP 2 6 m_least_through
/-- slots: 0:many 1:seen 2:switch 3:thing 4:pair -/
noncomputable def e_ears_shown_1 : EM := cCallF g_is_pair (cCons (cVar 1) (cCons (cVar 2) (cCons (cVar 4) (cNil))))
noncomputable def e_ears_shown_2 : EM := cCallF g_unlike_in (cCons (cVar 1) (cCons (cVar 4) (cNil)))
noncomputable def m_ears_shown : SM := sSeq (sExpr (cCallF g_need_no_clash (cCons (cVar 0) (cCons (cVar 1) (cNil))))) (sSeq (sIf (cOrT (cNotT (cTru (cIsi isLst (cVar 3)))) (cNotT (cTru (cCall allD (cCons (cComp (cIter (cVar 3)) (tmName 4) (cYes) (e_ears_shown_1) [4]) (cNil)))))) (sRet (cC .non)) (sSkip)) (sRet (cCallF g_least_through (cCons (cVar 0) (cCons (cComp (cIter (cVar 3)) (tmName 4) (cYes) (e_ears_shown_2) [4]) (cNil))))))
noncomputable def g_ears_shown : List D → R Hd := fnP 4 5 m_ears_shown
/-- slots: 0:seen 1:k 2:thing 3:one 4:other 5:place -/
noncomputable def e__law_is_pair_1 : EM := cCallF g__law_whole_2 (cCons (cVar 5) (cNil))
noncomputable def e__law_is_pair_2 : EM := cIx (cVar 0) (cVar 5)
noncomputable def m__law_is_pair : SM := sSeq (sIf (cOrT (cNotT (cTru (cIsi isTup (cVar 2)))) (cOrT (cBl (cOp neD (cCall lenD (cCons (cVar 2) (cNil))) (cC (.int 2)))) (cNotT (cTru (cCall allD (cCons (cComp (cIter (cVar 2)) (tmName 5) (cYes) (e__law_is_pair_1) [5]) (cNil))))))) (sRet (cC (.bl false))) (sSkip)) (sSeq (sIf (cOrT (cBl (cOp ltD (cCall minSD (cCons (cVar 2) (cNil))) (cC (.int 0)))) (cBl (cOp geD (cCall maxSD (cCons (cVar 2) (cNil))) (cCall lenD (cCons (cVar 0) (cNil)))))) (sRet (cC (.bl false))) (sSkip)) (sSeq (sAsg (cComp (cIter (cVar 2)) (tmName 5) (cYes) (e__law_is_pair_2) [5]) (tmLst [3, 4])) (sRet (cAnd (cOp eqD (cIx (cVar 3) (cC (.int 1))) (cVar 1)) (cAnd (cOp eqD (cIx (cVar 4) (cC (.int 1))) (cVar 1)) (cOp neD (cIx (cVar 3) (cC (.int 2))) (cIx (cVar 4) (cC (.int 2)))))))))
noncomputable def g__law_is_pair : List D → R Hd := fnP 3 6 m__law_is_pair
/-- slots: 0:many 1:seen 2:k 3:thing 4:sets 5:i 6:j 7:size 8:some 9:at 10:pair 11:one -/
noncomputable def e__law_due_7_1 : EM := cCallF g__law_is_pair (cCons (cVar 1) (cCons (cVar 2) (cCons (cVar 10) (cNil))))
noncomputable def t__law_due_7_2 : BM := cBl (cOp neD (cIx (cIx (cIx (cVar 1) (cVar 5)) (cC (.int 0))) (cVar 9)) (cIx (cIx (cIx (cVar 1) (cVar 6)) (cC (.int 0))) (cVar 9)))
noncomputable def e__law_due_7_2 : EM := cVar 9
noncomputable def b__law_due_7_1 : SM := sAppend 4 (cComp (cRange rng1D (cCons (cVar 0) (cNil))) (tmName 9) (t__law_due_7_2) (e__law_due_7_2) [9])
noncomputable def t__law_due_7_3 : BM := cBl (cOp inD (cVar 9) (cVar 8))
noncomputable def e__law_due_7_3 : EM := cVar 9
noncomputable def t__law_due_7_4 : BM := cBl (cOp eqD (cComp (cIter (cVar 11)) (tmName 9) (t__law_due_7_3) (e__law_due_7_3) [9]) (cLst (cNil)))
noncomputable def e__law_due_7_4 : EM := cC (.int 1)
noncomputable def b__law_due_7_2 : SM := sIf (cBl (cOp eqD (cComp (cIter (cOwn 4)) (tmName 11) (t__law_due_7_4) (e__law_due_7_4) [11]) (cLst (cNil)))) (sRet (cVar 7)) (sSkip)
noncomputable def b__law_due_7_3 : SM := sFor [] (cIter (cCallF g__law_subsets (cCons (cVar 0) (cCons (cVar 7) (cNil))))) (tmName 8) (b__law_due_7_2) [8]
noncomputable def m__law_due_7 : SM := sSeq (sIf (cOrT (cNotT (cTru (cIsi isLst (cVar 3)))) (cNotT (cTru (cCall allD (cCons (cComp (cIter (cVar 3)) (tmName 10) (cYes) (e__law_due_7_1) [10]) (cNil)))))) (sRet (cC .non)) (sSkip)) (sSeq (sOwn [4] [] (cLst (cNil)) 4) (sSeq (sFor [] (cIter (cVar 3)) (tmTup [5, 6]) (b__law_due_7_1) [5, 6]) (sSeq (sFor [] (cRange rng1D (cCons (cOp addD (cVar 0) (cC (.int 1))) (cNil))) (tmName 7) (b__law_due_7_3) [7, 8]) (sRet (cC .non)))))
noncomputable def g__law_due_7 : List D → R Hd := fnP 4 12 m__law_due_7
/-- slots: 0:stand 1:ears 2:ear -/
noncomputable def e_read_by_1 : EM := cIx (cVar 0) (cVar 2)
noncomputable def m_read_by : SM := sRet (cCall tupleD (cCons (cComp (cIter (cVar 1)) (tmName 2) (cYes) (e_read_by_1) [2]) (cNil)))
noncomputable def g_read_by : List D → R Hd := fnP 2 3 m_read_by
/-- slots: 0:seen 1:switch 2:ears 3:found 4:stand 5:one 6:bit -/
noncomputable def b_bits_by_1 : SM := sIf (cAndT (cBl (cOp eqD (cVar 5) (cVar 1))) (cBl (cOp neD (cSetD 3 (cCallF g_read_by (cCons (cVar 4) (cCons (cVar 2) (cNil)))) (cVar 6)) (cVar 6)))) (sRet (cC .non)) (sSkip)
noncomputable def m_bits_by : SM := sSeq (sDicNew true 3) (sSeq (sFor [] (cIter (cVar 0)) (tmTup [4, 5, 6]) (b_bits_by_1) [4, 5, 6]) (sRet (cOwn 3)))
noncomputable def g_bits_by : List D → R Hd := fnP 3 7 m_bits_by
/-- slots: 0:many 1:seen 2:switch 3:size 4:ears -/
noncomputable def b_fewest_ears_1 : SM := sIf (cBl (cOp isNotD (cCallF g_bits_by (cCons (cVar 1) (cCons (cVar 2) (cCons (cVar 4) (cNil))))) (cC .non))) (sRet (cVar 4)) (sSkip)
noncomputable def b_fewest_ears_2 : SM := sFor [] (cIter (cCallF g_picked (cCons (cRg1 true (cVar 0)) (cCons (cVar 3) (cNil))))) (tmName 4) (b_fewest_ears_1) [4]
noncomputable def m_fewest_ears : SM := sSeq (sExpr (cCallF g_need_no_clash (cCons (cVar 0) (cCons (cVar 1) (cNil))))) (sSeq (sFor [] (cRange rng1D (cCons (cOp addD (cCall min2D (cCons (cVar 0) (cCons (cC (.int 4)) (cNil)))) (cC (.int 1))) (cNil))) (tmName 3) (b_fewest_ears_2) [3, 4]) (sRaise "TooMany"))
noncomputable def g_fewest_ears : List D → R Hd := fnP 3 5 m_fewest_ears
/-- slots: 0:sets 1:one 2:other 3:switch -/
noncomputable def e_is_least_1 : EM := cOp inD (cVar 3) (cVar 1)
noncomputable def e_is_least_2 : EM := cAnd (cOp neD (cVar 2) (cVar 1)) (cCall allD (cCons (cComp (cIter (cVar 2)) (tmName 3) (cYes) (e_is_least_1) [3]) (cNil)))
noncomputable def m_is_least : SM := sRet (cNot (cCall anyD (cCons (cComp (cIter (cVar 0)) (tmName 2) (cYes) (e_is_least_2) [2]) (cNil))))
noncomputable def g_is_least : List D → R Hd := fnP 2 4 m_is_least
/-- slots: 0:many 1:seen 2:switch 3:pairs 4:one 5:other 6:some 7:pair -/
noncomputable def b_ear_paper_1 : SM := sIf (cTru (cCallF g_is_pair (cCons (cVar 1) (cCons (cVar 2) (cCons (cTup (cCons (cVar 4) (cCons (cVar 5) (cNil)))) (cNil)))))) (sExpr (cSetD 3 (cCallF g_unlike_in (cCons (cVar 1) (cCons (cTup (cCons (cVar 4) (cCons (cVar 5) (cNil)))) (cNil)))) (cTup (cCons (cVar 4) (cCons (cVar 5) (cNil)))))) (sSkip)
noncomputable def b_ear_paper_2 : SM := sFor [] (cRange rng2D (cCons (cOp addD (cVar 4) (cC (.int 1))) (cCons (cCall lenD (cCons (cVar 1) (cNil))) (cNil)))) (tmName 5) (b_ear_paper_1) [5]
noncomputable def t_ear_paper_1 : BM := cTru (cCallF g_is_least (cCons (cCall listKD (cCons (cVar 3) (cNil))) (cCons (cVar 6) (cNil))))
noncomputable def e_ear_paper_1 : EM := cVar 7
noncomputable def m_ear_paper : SM := sSeq (sExpr (cCallF g_need_no_clash (cCons (cVar 0) (cCons (cVar 1) (cNil))))) (sGrowD 3 (sFor [] (cRange rng1D (cCons (cCall lenD (cCons (cVar 1) (cNil))) (cNil))) (tmName 4) (b_ear_paper_2) [4, 5]) (sRet (cCall sortD (cCons (cNox (cComp (cItems 3) (tmTup [6, 7]) (t_ear_paper_1) (e_ear_paper_1) [6, 7])) (cNil)))))
noncomputable def g_ear_paper : List D → R Hd := fnP 3 8 m_ear_paper
/-- slots: 0:many 1:seen 2:switch 3:ears 4:bits 5:reading -/
noncomputable def e_rule_seen_1 : EM := cGetD (cVar 4) (cVar 5) (cC (.int 0))
noncomputable def m_rule_seen : SM := sSeq (sAsg (cCallF g_fewest_ears (cCons (cVar 0) (cCons (cVar 1) (cCons (cVar 2) (cNil))))) (tmName 3)) (sSeq (sAsg (cCallF g_bits_by (cCons (cVar 1) (cCons (cVar 2) (cCons (cVar 3) (cNil))))) (tmName 4)) (sRet (cTup (cCons (cVar 3) (cCons (cCall tupleD (cCons (cComp (cIter (cCallF g_stands_of (cCons (cCall lenD (cCons (cVar 3) (cNil))) (cNil)))) (tmName 5) (cYes) (e_rule_seen_1) [5]) (cNil))) (cNil))))))
noncomputable def g_rule_seen : List D → R Hd := fnP 3 6 m_rule_seen
/-- slots: 0:seen 1:i 2:j -/
noncomputable def b__law_first_1 : SM := sIf (cAndT (cBl (cOp eqD (cIx (cIx (cVar 0) (cVar 1)) (cC (.int 0))) (cIx (cIx (cVar 0) (cVar 2)) (cC (.int 0))))) (cAndT (cBl (cOp eqD (cIx (cIx (cVar 0) (cVar 1)) (cC (.int 1))) (cIx (cIx (cVar 0) (cVar 2)) (cC (.int 1))))) (cBl (cOp neD (cIx (cIx (cVar 0) (cVar 1)) (cC (.int 2))) (cIx (cIx (cVar 0) (cVar 2)) (cC (.int 2))))))) (sRet (cTup (cCons (cVar 1) (cCons (cVar 2) (cNil))))) (sSkip)
noncomputable def b__law_first_2 : SM := sFor [] (cRange rng2D (cCons (cOp addD (cVar 1) (cC (.int 1))) (cCons (cCall lenD (cCons (cVar 0) (cNil))) (cNil)))) (tmName 2) (b__law_first_1) [2]
noncomputable def m__law_first : SM := sSeq (sFor [] (cRange rng1D (cCons (cCall lenD (cCons (cVar 0) (cNil))) (cNil))) (tmName 1) (b__law_first_2) [1, 2]) (sRet (cC .non))
noncomputable def g__law_first : List D → R Hd := fnP 1 3 m__law_first
/-- slots: 0:box 1:seen 2:found 3:turn 4:stand 5:k 6:bit -/
noncomputable def b__law_doubled_1 : SM := sSeq (sAsg (cIx (cVar 1) (cCallIO [(0, 0)] g__law_take_2 (cCons (cOwn 0) (cCons (cCall lenD (cCons (cVar 1) (cNil))) (cNil))))) (tmTup [4, 5, 6])) (sInsert 2 (cCallIO [(0, 0)] g__law_take_2 (cCons (cOwn 0) (cCons (cOp addD (cCall lenD (cCons (cOwn 2) (cNil))) (cC (.int 1))) (cNil)))) (cTup (cCons (cVar 4) (cCons (cVar 5) (cCons (cIx (cLst (cCons (cVar 6) (cCons (cVar 6) (cCons (cOp subD (cC (.int 1)) (cVar 6)) (cNil))))) (cCallIO [(0, 0)] g__law_take_2 (cCons (cOwn 0) (cCons (cC (.int 3)) (cNil))))) (cNil))))))
noncomputable def m__law_doubled : SM := sSeq (sOwn [0, 2] [0] (cCall listD (cCons (cVar 1) (cNil))) 2) (sSeq (sFor [0] (cRange rng1D (cCons (cOp mulD (cCallIO [(0, 0)] g__law_take_2 (cCons (cOwn 0) (cCons (cC (.int 4)) (cNil)))) (cCall intOfD (cCons (cOp neD (cVar 1) (cLst (cNil))) (cNil)))) (cNil))) (tmName 3) (b__law_doubled_1) [3, 4, 5, 6]) (sRet (cOwn 2)))
noncomputable def g__law_doubled : Fn := fnD 2 7 [0] m__law_doubled
/-- slots: 0:many 1:seen 2:switch -/
noncomputable def e_net_seen_2_1 : EM := cCallF g_rule_seen (cCons (cVar 0) (cCons (cVar 1) (cCons (cVar 2) (cNil))))
noncomputable def m_net_seen_2 : SM := sRet (cCall tupleD (cCons (cCompY (cRange rng1D (cCons (cVar 0) (cNil))) (tmName 2) (e_net_seen_2_1) [2]) (cNil)))
noncomputable def g_net_seen_2 : List D → R Hd := fnP 2 3 m_net_seen_2
/-- slots: 0:way 1:many 2:seen 3:k 4:e -/
noncomputable def w__law_asked_12_1 : TM := tbSeq (tbIf (cBl (cOp eqD (cVar 0) (cC (.int 0)))) (tbRet (cXcall g_first_clash (cCons (cVar 1) (cCons (cVar 2) (cNil))))) (tbNil)) (tbSeq (tbIf (cBl (cOp eqD (cVar 0) (cC (.int 1)))) (tbRet (cXcall g_fewest_ears (cCons (cVar 1) (cCons (cVar 2) (cCons (cVar 3) (cNil)))))) (tbNil)) (tbSeq (tbIf (cBl (cOp eqD (cVar 0) (cC (.int 2)))) (tbRet (cXcall g_rule_seen (cCons (cVar 1) (cCons (cVar 2) (cCons (cVar 3) (cNil)))))) (tbNil)) (tbSeq (tbIf (cBl (cOp eqD (cVar 0) (cC (.int 3)))) (tbRet (cXcall g_net_seen_2 (cCons (cVar 1) (cCons (cVar 2) (cNil))))) (tbNil)) (tbSeq (tbIf (cBl (cOp eqD (cVar 0) (cC (.int 4)))) (tbRet (cXcall g_ear_paper (cCons (cVar 1) (cCons (cVar 2) (cCons (cVar 3) (cNil)))))) (tbNil)) (tbRet (cXcall g_ears_shown (cCons (cVar 1) (cCons (cVar 2) (cCons (cVar 3) (cCons (cLst (cNil)) (cNil)))))))))))
noncomputable def h__law_asked_12_1 : Str → SM := fun cn => sRet (cC (.str (kindW cn)))
noncomputable def m__law_asked_12 : SM := sTry 4 ["NoSeen", "TooMany"] w__law_asked_12_1 h__law_asked_12_1
noncomputable def g__law_asked_12 : List D → R Hd := fnP 4 5 m__law_asked_12
/-- slots: 0:script 1:turn 2:box 3:net 4:seen 5:k 6:found 7:refused 8:due 9:way 10:place -/
noncomputable def e_law_k82_2_1 : EM := cOp eqD (cCallF g__law_asked_12 (cCons (cVar 9) (cCons (cCall lenD (cCons (cVar 3) (cNil))) (cCons (cVar 4) (cCons (cVar 5) (cNil)))))) (cC (.str "seen"))
noncomputable def e_law_k82_2_2 : EM := cCallF g__law_whole_2 (cCons (cVar 10) (cNil))
noncomputable def b_law_k82_2_1 : SM := sSeq (sOwn [2] [2] (cCallF g__law_box_2 (cCons (cVar 0) (cCons (cVar 1) (cNil)))) 2) (sSeq (sAsg (cCallIO [(0, 2)] g__law_net_2 (cCons (cOwn 2) (cCons (cC (.int 8)) (cNil)))) (tmName 3)) (sSeq (sAsg (cCallIO [(0, 2)] g__law_doubled (cCons (cOwn 2) (cCons (cCallIO [(0, 2)] g__law_sights (cCons (cOwn 2) (cCons (cVar 3) (cCons (cC (.int 30)) (cNil))))) (cNil)))) (tmName 4)) (sSeq (sIf (cBl (cOp eqD (cCallIO [(0, 2)] g__law_take_2 (cCons (cOwn 2) (cCons (cC (.int 6)) (cNil)))) (cC (.int 1)))) (sAsg (cCallIO [(0, 2)] g__law_spoilt (cCons (cOwn 2) (cCons (cVar 4) (cCons (cCall lenD (cCons (cVar 3) (cNil))) (cNil))))) (tmName 4)) (sSkip)) (sSeq (sAsg (cCallIO [(0, 2)] g__law_take_2 (cCons (cOwn 2) (cCons (cCall lenD (cCons (cVar 3) (cNil))) (cNil)))) (tmName 5)) (sSeq (sAsg (cCallF g__law_asked_12 (cCons (cC (.int 0)) (cCons (cCall lenD (cCons (cVar 3) (cNil))) (cCons (cVar 4) (cCons (cVar 5) (cNil)))))) (tmName 6)) (sSeq (sAsg (cComp (cRange rng2D (cCons (cC (.int 1)) (cCons (cC (.int 6)) (cNil)))) (tmName 9) (cYes) (e_law_k82_2_1) [9]) (tmName 7)) (sIf (cNotT (cTru (cCallF g__law_is_seen (cCons (cCall lenD (cCons (cVar 3) (cNil))) (cCons (cVar 4) (cNil)))))) (sIf (cOrT (cBl (cOp neD (cVar 6) (cC (.str "seen")))) (cBl (cOp neD (cVar 7) (cOp mulD (cLst (cCons (cC (.bl true)) (cNil))) (cC (.int 5)))))) (sRet (cC (.bl false))) (sSkip)) (sSeq (sAsg (cCallF g__law_first (cCons (cVar 4) (cNil))) (tmName 8)) (sSeq (sIf (cOrT (cBl (cOp neD (cVar 6) (cVar 8))) (cAndT (cBl (cOp isNotD (cVar 8) (cC .non))) (cBl (cOp neD (cVar 7) (cOp mulD (cLst (cCons (cC (.bl true)) (cNil))) (cC (.int 5))))))) (sRet (cC (.bl false))) (sSkip)) (sSeq (sIf (cAndT (cBl (cOp isNotD (cVar 8) (cC .non))) (cNotT (cTru (cCall allD (cCons (cComp (cIter (cVar 6)) (tmName 10) (cYes) (e_law_k82_2_2) [10]) (cNil)))))) (sRet (cC (.bl false))) (sSkip)) (sIf (cAndT (cBl (cOp isD (cVar 8) (cC .non))) (cBl (cOp inD (cC (.bl true)) (cVar 7)))) (sRet (cC (.bl false))) (sSkip))))))))))))
noncomputable def m_law_k82_2 : SM := sSeq (sFor [] (cRange rng1D (cCons (cCall max2D (cCons (cC (.int 1)) (cCons (cCall min2D (cCons (cCall lenD (cCons (cVar 0) (cNil))) (cCons (cC (.int 4)) (cNil)))) (cNil)))) (cNil))) (tmName 1) (b_law_k82_2_1) [1, 2, 3, 4, 5, 6, 7, 8]) (sRet (cC (.bl true)))
noncomputable def g_law_k82_2 : List D → R Hd := fnP 1 11 m_law_k82_2
end C

set_option Elab.async false
set_option linter.all false
set_option maxRecDepth 100000
namespace H
open PySem PySem.Spec PyProof.Rows L2 Y
abbrev ti (xs : List Int) : D := .tup (xs.map D.int)
abbrev dRule (r : List Int × List Int) : D := .tup [ti r.1, ti r.2]
abbrev dNet (ns : List (List Int × List Int)) : D := .tup (ns.map dRule)
@[simp] theorem is_whole_int {i : Int} : C.g_is_whole [.int i] = .ok (.fr (.bl true)) := by
  simp [C.g_is_whole, C.m_is_whole, e_fnP, noDit, Y.isInt, Y.isBl]
@[simp] theorem is_upto_int {i m : Int} : C.g_is_upto [.int i, .int m] = .ok (.fr (.bl (decide (0 ≤ i ∧ i < m)))) := by
  simp [C.g_is_upto, C.m_is_upto, e_fnP, is_whole_int]
  by_cases h : 0 ≤ i <;> simp [h]
def placeI (xs : List Int) : Int := xs.foldl (fun p b => 2 * p + b) 0
end H

set_option Elab.async false
set_option linter.all false
set_option maxRecDepth 100000
namespace H
open PySem PySem.Spec PyProof.Rows L2 Y
theorem atI_nat' {α : Type} {xs : List α} {k : Nat} (h : k < xs.length) : atI xs (k : Int) = some xs[k] := atI_of (j := k) rfl (List.getElem?_eq_getElem h)
theorem atI_map {α β : Type} {f : α → β} {xs : List α} {i : Int} : atI (xs.map f) i = (atI xs i).map f := by
  unfold atI
  rw [List.length_map]
  cases ixN xs.length i with
  | none => rfl
  | some j => simp
theorem atI_int {xs : List Int} {i : Int} (h0 : 0 ≤ i) (h : i < xs.length) : atI xs i = some (xs.getD i.toNat 0) := by
  rw [atI_lt h0 h, List.getD_eq_getElem?_getD, List.getElem?_eq_getElem (by omega)]
  rfl
theorem atI_mapI {xs : List Int} {i : Int} (h0 : 0 ≤ i) (h : i < xs.length) : atI (xs.map D.int) i = some (.int (xs.getD i.toNat 0)) := by rw [atI_map, atI_int h0 h]; rfl
theorem place_go : ∀ {xs : List Int} {p : Int}, 0 ≤ p → (∀ x ∈ xs, 0 ≤ x ∧ x < 2) → 0 ≤ xs.foldl (fun p b => 2 * p + b) p ∧ xs.foldl (fun p b => 2 * p + b) p < (p + 1) * 2 ^ xs.length
  | [], p, hp, _ => by simp; omega
  | x :: xs, p, hp, h => by
    have hx := h x (by simp)
    have ih := place_go (xs := xs) (p := 2 * p + x) (by omega) fun y hy => h y (by simp [hy])
    rw [List.foldl_cons, List.length_cons, Int.pow_succ]
    refine ⟨ih.1, Int.lt_of_lt_of_le ih.2 ?_⟩
    have e : (p + 1) * (2 ^ xs.length * 2) = (2 * p + 2) * 2 ^ xs.length := by
      rw [Int.mul_comm (2 ^ xs.length) 2, ← Int.mul_assoc]
      congr 1
      omega
    rw [e]
    exact Int.mul_le_mul_of_nonneg_right (by omega) (Int.pow_nonneg (by omega))
theorem placeI_lt {xs : List Int} (h : ∀ x ∈ xs, 0 ≤ x ∧ x < 2) : 0 ≤ placeI xs ∧ placeI xs < 2 ^ xs.length := by
  have := place_go (xs := xs) (p := 0) (by omega) h
  simpa [placeI] using this
abbrev RuleT := List Int × List Int
structure GoodNet (ns : List RuleT) : Prop where
  sz : ns.length ≤ 100
  ear : ∀ r ∈ ns, r.1.length ≤ 100 ∧ (∀ e ∈ r.1, 0 ≤ e ∧ e < ns.length) ∧ r.2.length = 2 ^ r.1.length
structure IsSt (m : Nat) (st : List Int) : Prop where
  len : st.length = m
  bit : ∀ x ∈ st, 0 ≤ x ∧ x < 2
def tellI (r : RuleT) (st : List Int) : Int := r.2.getD (placeI (r.1.map fun e => st.getD e.toNat 0)).toNat 0
def oughtI (ns : List RuleT) (st : List Int) (k : Nat) : Int := tellI (ns.getD k ([], [])) st
theorem getD_bit {st : List Int} (h : ∀ x ∈ st, 0 ≤ x ∧ x < 2) (k : Nat) : 0 ≤ st.getD k 0 ∧ st.getD k 0 < 2 := by
  rw [List.getD_eq_getElem?_getD]
  cases e : st[k]? with
  | none => simp
  | some x => exact h x (List.mem_of_getElem? e)
theorem IsSt.get {m : Nat} {st : List Int} (h : IsSt m st) (k : Nat) : 0 ≤ st.getD k 0 ∧ st.getD k 0 < 2 := getD_bit h.bit k
theorem read_lt {m : Nat} {st : List Int} (h : IsSt m st) (es : List Int) : 0 ≤ placeI (es.map fun e => st.getD e.toNat 0) ∧ placeI (es.map fun e => st.getD e.toNat 0) < 2 ^ es.length := by
  have := placeI_lt (xs := es.map fun e => st.getD e.toNat 0) fun x hx => by
    obtain ⟨e, _, rfl⟩ := List.mem_map.mp hx
    exact h.get _
  rwa [List.length_map] at this
theorem net_at {ns : List RuleT} {k : Nat} (h : k < ns.length) : atI (ns.map dRule) (k : Int) = some (dRule (ns.getD k ([], []))) := by
  rw [atI_map, atI_nat' h, List.getD_eq_getElem?_getD, List.getElem?_eq_getElem h]
  rfl
theorem GoodNet.at {ns : List RuleT} (g : GoodNet ns) {k : Nat} (h : k < ns.length) : (ns.getD k ([], [])).1.length ≤ 100 ∧ (∀ e ∈ (ns.getD k ([], [])).1, 0 ≤ e ∧ e < ns.length) ∧ (ns.getD k ([], [])).2.length = 2 ^ (ns.getD k ([], [])).1.length := by
  rw [List.getD_eq_getElem?_getD, List.getElem?_eq_getElem h]
  exact g.ear _ (List.getElem_mem h)
/-- the switches that are not as their rules tell -/
def wrongI (ns : List RuleT) (st : List Int) : List Nat := (List.range ns.length).filter fun k => !decide (oughtI ns st k = st.getD k 0)
abbrev ln' (xs : List Nat) : D := .lst (xs.map fun k => D.int (k : Nat))
def stands : Nat → List (List Int)
  | 0 => [[]]
  | m + 1 => (stands m).map (0 :: ·) ++ (stands m).map (1 :: ·)
theorem stands_len : ∀ m, (stands m).length = 2 ^ m
  | 0 => rfl
  | m + 1 => by simp [stands, stands_len m, Nat.pow_succ]; omega
theorem stands_st : ∀ {m : Nat} {st : List Int}, st ∈ stands m → IsSt m st
  | 0, st, h => by simp [stands] at h; subst h; exact ⟨rfl, by simp⟩
  | m + 1, st, h => by
    simp only [stands, List.mem_append, List.mem_map] at h
    rcases h with ⟨s, h, rfl⟩ | ⟨s, h, rfl⟩
    · exact ⟨by simp [(stands_st h).len], by simpa using (stands_st h).bit⟩
    · exact ⟨by simp [(stands_st h).len], by simpa using (stands_st h).bit⟩
abbrev lti (xs : List (List Int)) : D := .lst (xs.map ti)
theorem stands_of_ok {m : Nat} (hm : m ≤ 20) : C.g_stands_of [.int m] = .ok (.vl (lti (stands m))) := by
  have hp : ∀ k, k ≤ 20 → 2 ^ k ≤ 1048576 := fun k hk => Nat.pow_le_pow_right (by omega) hk
  have h := for_rng (tm := tmName 2) (body := C.b_stands_of_1) (vs := [2]) (ws := []) (n := m) (fun k : Nat => D.int (k : Nat)) (fun k => [some (.int m), some (lti (stands k)), none, none]) (fun i hi => by
    have hz := hp i (by omega)
    have hz2 := hp (i + 1) (by omega)
    have c1 : cCompL (tmName 3) cYes C.e_stands_of_1 [3] [] ((stands i).map ti) [some (.int m), some (lti (stands i)), some (.int (i : Nat)), none] = .ok (((stands i).map fun s => ti (0 :: s)), [some (.int m), some (lti (stands i)), some (.int (i : Nat)), none]) :=
      comp_map ti (fun s => ti (0 :: s)) (stands i) (fun s hs => by
        have := (stands_st hs).len
        simp [turnC, C.e_stands_of_1, szOk_of (show 1 + s.length ≤ 16777216 by omega)])
    have c2 : cCompL (tmName 3) cYes C.e_stands_of_2 [3] [] ((stands i).map ti) [some (.int m), some (lti (stands i)), some (.int (i : Nat)), none] = .ok (((stands i).map fun s => ti (1 :: s)), [some (.int m), some (lti (stands i)), some (.int (i : Nat)), none]) :=
      comp_map ti (fun s => ti (1 :: s)) (stands i) (fun s hs => by
        have := (stands_st hs).len
        simp [turnC, C.e_stands_of_2, szOk_of (show 1 + s.length ≤ 16777216 by omega)])
    have hl := stands_len i
    have z1 : szOk (stands i).length = true := szOk_of (by omega)
    have z2 : szOk ((stands i).length + (stands i).length) = true := szOk_of (by rw [Nat.pow_succ] at hz2; omega)
    refine ⟨by simp, ?_⟩
    simp only [turnF, C.b_stands_of_1]
    simp [c1, c2, z1, z2, stands, Function.comp_def])
  have hr : rngOk m = true := rngOk_of (by omega) (by omega)
  have hz2 : szOk m = true := szOk_of (by omega)
  have h : forL (tmName 2) C.b_stands_of_1 [2] [] ((List.range m).map fun k : Nat => D.int (k : Nat)) [some (.int m), some (.lst [.tup []]), none, none] = _ := h
  simp [C.g_stands_of, C.m_stands_of, e_fnP, hr, hz2, h]
theorem eqPs_nil {xs : List D} : eqPs xs [] = xs.isEmpty := by cases xs <;> rfl
end H

set_option Elab.async false
set_option linter.all false
set_option maxRecDepth 100000
set_option exponentiation.threshold 300
namespace H
open PySem PySem.Spec PyProof.Rows L2 Y
def cellI (ns : List Int) (k : Nat) : Int := if k < ns.length then ns.getD k 0 else 6151 * k + 29
def isOk (r : R Hd) (d : D) : Prop := r = .ok (.fr d) ∨ r = .ok (.vl d)
theorem cell_ok {ns : List Int} {k : Nat} : isOk (C.g__law_cell [.arg ns, .int k]) (.int (cellI ns k)) := by
  unfold cellI
  by_cases h : k < ns.length
  · right
    have a := atI_int (xs := ns) (i := k) (by omega) (by omega)
    simp only [Int.toNat_natCast] at a
    simp [C.g__law_cell, C.m__law_cell, e_fnP, h, a, -List.getD_eq_getElem?_getD]
  · left
    simp [C.g__law_cell, C.m__law_cell, e_fnP, h, mulOk_l]
/-- numbers that the machine bears as factors -/
def Big (n : Nat) (z : Int) : Prop := z.natAbs < 2 ^ n
theorem Big.add {a b : Int} {n : Nat} (h : Big n a) (h2 : Big n b) : Big (n + 1) (a + b) := by
  unfold Big at *
  rw [Nat.pow_succ]
  have := Int.natAbs_add_le a b
  omega
theorem Big.times {a b : Int} {n m : Nat} (h : Big n a) (h2 : Big m b) : Big (n + m) (a * b) := by
  unfold Big at *
  rw [Int.natAbs_mul, Nat.pow_add]
  exact Nat.mul_lt_mul'' h h2
theorem Big.up {a : Int} {n m : Nat} (h : Big n a) (hm : n ≤ m) : Big m a := Nat.lt_of_lt_of_le h (Nat.pow_le_pow_right (by omega) hm)
theorem cut_hi {ds : List D} {k : Nat} : Y.cutD ds none (some (k : Int)) = ds.take k := by
  unfold Y.cutD
  rw [HT.sIx_none, HT.sIx_nat]
  simp
/-- a rule for m switches -/
structure RuleOk (m : Nat) (r : RuleT) : Prop where
  len : r.1.length ≤ 4
  sub : ∃ es : List Nat, r.1 = es.map (fun j : Nat => (j : Int)) ∧ es.Sublist (List.range m)
  tab : r.2.length = 2 ^ r.1.length
  bit : ∀ x ∈ r.2, 0 ≤ x ∧ x < 2
end H

set_option Elab.async false
set_option linter.all false
set_option maxRecDepth 100000
namespace H
open PySem PySem.Spec PyProof.Rows L2 Y
structure NetOk (ns : List RuleT) (most : Nat) : Prop where
  pos : 1 ≤ ns.length
  le : ns.length ≤ most
  rule : ∀ r ∈ ns, RuleOk ns.length r
theorem NetOk.good {ns : List RuleT} {most : Nat} (h : NetOk ns most) (hm : most ≤ 100) : GoodNet ns where
  sz := Nat.le_trans h.le hm
  ear := fun r hr => by
    have k := h.rule r hr
    refine ⟨by have := k.len; omega, fun e he => ?_, k.tab⟩
    obtain ⟨es, e1, sub⟩ := k.sub
    rw [e1] at he
    obtain ⟨j, hj, rfl⟩ := List.mem_map.mp he
    have := List.mem_range.mp (sub.subset hj)
    omega
end H

set_option Elab.async false
set_option linter.all false
set_option maxRecDepth 100000
namespace H
open PySem PySem.Spec PyProof.Rows L2 Y
theorem cut_to {ds : List D} {k : Nat} : Y.cutD ds none (some (k : Int)) = ds.take k := cut_hi
theorem cut_from {ds : List D} {k : Nat} : Y.cutD ds (some (k : Int)) none = ds.drop k := by
  unfold Y.cutD
  rw [HT.sIx_none, HT.sIx_nat]
  by_cases h : k ≤ ds.length
  · rw [Nat.min_eq_left h, List.take_of_length_le (by simp)]
  · rw [Nat.min_eq_right (by omega), List.drop_of_length_le (Nat.le_refl _), List.drop_of_length_le (by omega)]
    simp
def withI (st : List Int) (k : Nat) (b : Int) : List Int := st.take k ++ b :: st.drop (k + 1)
end H

set_option Elab.async false
set_option linter.all false
set_option maxRecDepth 100000
namespace H
open PySem PySem.Spec PyProof.Rows L2 Y
abbrev tn (b : List Nat) : D := .tup (b.map fun k : Nat => D.int (k : Nat))
theorem ixN_nat {n k : Nat} (h : k < n) : ixN n (k : Int) = some k := by
  unfold ixN
  rw [if_pos (by omega), if_pos (by omega)]
  rfl
def TabBits (ns : List RuleT) : Prop := ∀ r ∈ ns, ∀ x ∈ r.2, 0 ≤ x ∧ x < 2
theorem NetOk.tab {ns : List RuleT} {most : Nat} (h : NetOk ns most) : TabBits ns := fun r hr => (h.rule r hr).bit
theorem oughtI_bit {ns : List RuleT} {st : List Int} {k : Nat} (hB : TabBits ns) : 0 ≤ oughtI ns st k ∧ oughtI ns st k < 2 := by
  unfold oughtI tellI
  refine getD_bit (fun x hx => ?_) _
  rw [List.getD_eq_getElem?_getD] at hx
  cases e : ns[k]? with
  | none => rw [e] at hx; simp at hx
  | some r => rw [e] at hx; exact hB r (List.mem_of_getElem? e) x hx
end H

set_option Elab.async false
set_option linter.all false
set_option maxRecDepth 100000
namespace H
open PySem PySem.Spec PyProof.Rows L2 Y
end H

set_option Elab.async false
set_option linter.all false
set_option maxRecDepth 100000
namespace H
open PySem PySem.Spec PyProof.Rows L2 Y
def riseB : List Int → Bool
  | x :: y :: r => decide (x < y) && riseB (y :: r)
  | _ => true
structure OrdOk (m : Nat) (o : List (List Nat)) : Prop where
  ne : ∀ b ∈ o, b ≠ []
  sub : ∀ b ∈ o, b.Sublist (List.range m)
  perm : o.flatten.Perm (List.range m)
theorem OrdOk.len {m : Nat} {o : List (List Nat)} (h : OrdOk m o) : o.length ≤ m := by
  have : ∀ o : List (List Nat), (∀ b ∈ o, b ≠ []) → o.length ≤ o.flatten.length := fun o => by
    induction o with
    | nil => simp
    | cons b o ih =>
      intro h
      have h1 := h b (by simp)
      have h2 := ih fun c hc => h c (by simp [hc])
      have : 0 < b.length := List.length_pos_iff.mpr h1
      rw [List.flatten_cons, List.length_append, List.length_cons]
      omega
  have h2 := this o h.ne
  rw [h.perm.length_eq, List.length_range] at h2
  exact h2
theorem OrdOk.apart {m : Nat} {o : List (List Nat)} (h : OrdOk m o) : o.Pairwise (fun b c => ∀ k ∈ b, k ∉ c) := by
  have : o.flatten.Nodup := h.perm.nodup_iff.mpr List.nodup_range
  have := (List.pairwise_flatten.mp this).2
  exact this.imp fun h k hk z => h k hk k z rfl
end H

set_option Elab.async false
set_option linter.all false
set_option maxRecDepth 100000
namespace H
open PySem PySem.Spec PyProof.Rows L2 Y
theorem eq_ti {a b : List Int} : eqD (ti a) (ti b) = .ok (.bl (decide (a = b))) := by
  rw [eqD_of (n := 1) fit_tupI fit_tupI, eqP_tup, eqPs_ints]
@[simp] theorem neD_bl {a b : Bool} : neD (.bl a) (.bl b) = .ok (.bl (a != b)) := by
  rw [neD_of (n := 0) fit_bl fit_bl, eqP_bl]
  cases a <;> cases b <;> rfl
theorem OrdOk.turn {m : Nat} {o : List (List Nat)} (h : OrdOk m o) (w : Nat) : OrdOk m (o.drop w ++ o.take w) := by
  have p : (o.drop w ++ o.take w).Perm o := by
    have := List.perm_append_comm (l₁ := o.drop w) (l₂ := o.take w)
    rwa [List.take_append_drop] at this
  exact ⟨fun b hb => h.ne b (p.mem_iff.mp hb), fun b hb => h.sub b (p.mem_iff.mp hb), p.flatten.trans h.perm⟩
end H

set_option Elab.async false
set_option linter.all false
set_option maxRecDepth 100000
namespace H
open PySem PySem.Spec PyProof.Rows L2 Y
def blk (ks : List Int) (m j : Nat) : List Nat := (List.range m).filter fun k => decide (ks.getD k 0 = (j : Nat))
end H

set_option Elab.async false
set_option linter.all false
set_option maxRecDepth 100000
set_option exponentiation.threshold 300
namespace H
open PySem PySem.Spec PyProof.Rows L2 Y
abbrev tx (l : List Nat) : Str := ⟨l.toArray⟩
abbrev dt (l : List Nat) : D := .str (tx l)
theorem tx_inj {a b : List Nat} : tx a = tx b ↔ a = b := by
  constructor
  · intro h
    have := congrArg (fun s : Str => s.cps.toList) h
    simpa using this
  · rintro rfl; rfl
/-- signs that the machine bears -/
def SgOk (l : List Nat) : Prop := ∀ c ∈ l, c < 1114112
theorem fit_dt {n : Nat} {l : List Nat} (h : SgOk l) : Fit n (dt l) := by
  have : PyData.strOk (tx l) = true := by
    unfold PyData.strOk
    rw [← Array.all_toList, List.all_eq_true]
    intro c hc
    simpa using h c (by simpa using hc)
  cases n <;> exact this
theorem eqP_dt {a b : List Nat} : eqP (dt a) (dt b) = decide (a = b) := by
  rw [eqP_str, Bool.eq_iff_iff, beq_iff_eq, decide_eq_true_eq, tx_inj]
theorem eq_dt {a b : List Nat} (ha : SgOk a) (hb : SgOk b) : eqD (dt a) (dt b) = .ok (.bl (decide (a = b))) := by
  rw [eqD_of (n := 0) (fit_dt ha) (fit_dt hb), eqP_dt]
end H

set_option Elab.async false
set_option linter.all false
set_option maxRecDepth 100000
set_option exponentiation.threshold 300
namespace H
open PySem PySem.Spec PyProof.Rows L2 Y
theorem take2_ok {n m : Int} (h0 : 0 < m) (h1 : m < 1073741824) : C.g__law_take_2 [.lst [.int n], .int m] = .ok (.vl (.int (n % m)), [some (.lst [.int (n / m)]), none]) := by
  have a : atI [D.int n] 0 = some (.int n) := rfl
  have b : ixN 1 0 = some 0 := rfl
  simp only [C.g__law_take_2, C.m__law_take_2]
  simp [e_fnD, smallPos_of h0 h1, h0, a, b, ixD]
def box2N (c : Int) (k : Nat) : Nat → Int × Int
  | 0 => (0, c % 2147483647)
  | j + 1 =>
    let m := ((box2N c k j).2 * 48271 + 7 * (j : Int) * j + 11 * k + 1) % 2147483647
    ((box2N c k j).1 * 2147483647 + m, m)
theorem box2_ok {ns : List Int} {k : Nat} (hk : k < 1000) : ∃ b : Int, C.g__law_box_2 [.arg ns, .int k] = .ok (.fr (.lst [.int b])) := by
  have h : forL (tmName 5) C.b__law_box_2_1 [5] [] ((List.range 24).map fun j : Nat => D.int (j : Nat)) [some (.arg ns), some (.int k), some (.int (cellI ns k)), some (.int 0), some (.int (cellI ns k % 2147483647)), none] = .ok (.nx, [some (.arg ns), some (.int k), some (.int (cellI ns k)), some (.int (box2N (cellI ns k) k 24).1), some (.int (box2N (cellI ns k) k 24).2), none]) :=
    for_rng (fun j : Nat => D.int (j : Nat)) (fun j => [some (.arg ns), some (.int k), some (.int (cellI ns k)), some (.int (box2N (cellI ns k) k j).1), some (.int (box2N (cellI ns k) k j).2), none]) (fun j hj => by
      refine ⟨by simp, ?_⟩
      have b1 : ∀ p : Int, mulOk p 2147483647 = true := fun p => mulOk_r (by decide)
      have b2 : ∀ p : Int, mulOk p 48271 = true := fun p => mulOk_r (by decide)
      have b3 : mulOk 7 j = true := mulOk_l (by decide)
      have b4 : mulOk 11 k = true := mulOk_l (by decide)
      have b5 : mulOk (7 * (j : Int)) j = true := mulOk_l (by omega)
      simp only [turnF, C.b__law_box_2_1]
      simp [b1, b2, b3, b4, b5, box2N])
  have hr : rngOk 24 = true := by decide
  have hz : szOk 24 = true := by decide
  have r24 : rng1D [.int 24] = .ok ((List.range 24).map fun j : Nat => D.int (j : Nat)) := by rw [d_rng1, if_pos hr]; rfl
  have z24 : szOk ((List.range 24).map fun j : Nat => D.int (j : Nat)).length = true := by simp [hz]
  by_cases e : cellI ns k % 2 = 0
  · refine ⟨cellI ns k / 2, ?_⟩
    rcases cell_ok (ns := ns) (k := k) with c | c <;> simp only [C.g__law_box_2, C.m__law_box_2] <;> simp [e_fnP, c, e, smallPos_of]
  · refine ⟨(box2N (cellI ns k) k 24).1, ?_⟩
    rcases cell_ok (ns := ns) (k := k) with c | c <;> simp only [C.g__law_box_2, C.m__law_box_2] <;> generalize C.b__law_box_2_1 = B at h ⊢ <;> generalize (List.range 24).map (fun j : Nat => D.int (j : Nat)) = L24 at h r24 z24 <;> simp [e_fnP, c, e, r24, z24, h, -d_rng1]
theorem mem_stands : ∀ {m : Nat} {st : List Int}, st ∈ stands m ↔ IsSt m st
  | 0, st => by
    constructor
    · exact stands_st
    · intro h
      have := h.len
      cases st with
      | nil => simp [stands]
      | cons => simp at this
  | m + 1, st => by
    constructor
    · exact stands_st
    · intro h
      cases st with
      | nil => have := h.len; simp at this
      | cons x st =>
        have hx := h.bit x (by simp)
        have hs : IsSt m st := ⟨by have := h.len; simpa using this, fun y hy => h.bit y (by simp [hy])⟩
        have : st ∈ stands m := mem_stands.mpr hs
        have e : x = 0 ∨ x = 1 := by omega
        rcases e with rfl | rfl <;> simp [stands, this]
theorem stands_lt : ∀ m, (stands m).Pairwise fun a b => ltL a b = true
  | 0 => by simp [stands]
  | m + 1 => by
    have ih := stands_lt m
    unfold stands
    rw [List.pairwise_append]
    refine ⟨?_, ?_, ?_⟩
    · rw [List.pairwise_map]; exact ih.imp fun h => by simpa [ltL] using h
    · rw [List.pairwise_map]; exact ih.imp fun h => by simpa [ltL] using h
    · intro a ha b hb
      obtain ⟨x, _, rfl⟩ := List.mem_map.mp ha
      obtain ⟨y, _, rfl⟩ := List.mem_map.mp hb
      simp [ltL]
theorem stands_nodup (m : Nat) : (stands m).Nodup := (stands_lt m).imp fun {a b} h e => by
  subst e
  rw [ltL_asym h] at h
  cases h
theorem stands_sorted {m : Nat} {xs : List (List Int)} (p : xs.Perm (stands m)) : sortL xs = stands m :=
  (sortL_of p.symm ((stands_lt m).imp fun h => ltL_asym h)).symm
/-- readings, the last bit grown -/
def rowsR : Nat → List (List Int)
  | 0 => [[]]
  | m + 1 => (rowsR m).map (· ++ [0]) ++ (rowsR m).map (· ++ [1])
theorem rowsR_st : ∀ {m : Nat} {st : List Int}, st ∈ rowsR m → IsSt m st
  | 0, st, h => by simp [rowsR] at h; subst h; exact ⟨rfl, by simp⟩
  | m + 1, st, h => by
    simp only [rowsR, List.mem_append, List.mem_map] at h
    rcases h with ⟨s, h, rfl⟩ | ⟨s, h, rfl⟩
    · have := rowsR_st h
      refine ⟨by simp [this.len], fun x hx => ?_⟩
      rcases List.mem_append.mp hx with hx | hx
      · exact this.bit x hx
      · simp at hx; omega
    · have := rowsR_st h
      refine ⟨by simp [this.len], fun x hx => ?_⟩
      rcases List.mem_append.mp hx with hx | hx
      · exact this.bit x hx
      · simp at hx; omega
theorem rowsR_len : ∀ m, (rowsR m).length = 2 ^ m
  | 0 => rfl
  | m + 1 => by simp [rowsR, rowsR_len m, Nat.pow_succ]; omega
theorem rowsR_nodup : ∀ m, (rowsR m).Nodup
  | 0 => by simp [rowsR]
  | m + 1 => by
    have ih := rowsR_nodup m
    unfold rowsR
    refine List.pairwise_append.mpr ⟨?_, ?_, ?_⟩
    · rw [List.pairwise_map]; exact ih.imp fun h e => h (List.append_cancel_right e)
    · rw [List.pairwise_map]; exact ih.imp fun h e => h (List.append_cancel_right e)
    · intro a ha b hb e
      obtain ⟨x, _, rfl⟩ := List.mem_map.mp ha
      obtain ⟨y, _, rfl⟩ := List.mem_map.mp hb
      have := List.append_inj' e rfl
      simp at this
theorem mem_rowsR : ∀ {m : Nat} {st : List Int}, IsSt m st → st ∈ rowsR m
  | 0, st, h => by
    have := h.len
    cases st with
    | nil => simp [rowsR]
    | cons => simp at this
  | m + 1, st, h => by
    rcases List.eq_nil_or_concat st with rfl | ⟨s, b, rfl⟩
    · have := h.len; simp at this
    · have hs : IsSt m s := ⟨by have := h.len; simpa using this, fun y hy => h.bit y (by simp [hy])⟩
      have hb := h.bit b (by simp)
      have := mem_rowsR hs
      have e : b = 0 ∨ b = 1 := by omega
      rcases e with rfl | rfl <;> simp [rowsR, this]
theorem rowsR_perm (m : Nat) : (rowsR m).Perm (stands m) :=
  (List.perm_ext_iff_of_nodup (rowsR_nodup m) (stands_nodup m)).mpr fun st => ⟨fun h => mem_stands.mpr (rowsR_st h), fun h => mem_rowsR (stands_st h)⟩
theorem readings_ok {m : Nat} (hm : m ≤ 20) : C.g__law_readings [.int m] = .ok (.fr (lti (stands m))) := by
  have hp : ∀ k, k ≤ 20 → 2 ^ k ≤ 1048576 := fun k hk => Nat.pow_le_pow_right (by omega) hk
  have h := for_rng (tm := tmName 2) (body := C.b__law_readings_1) (vs := [2]) (ws := []) (n := m) (fun k : Nat => D.int (k : Nat)) (fun k => [some (.int m), some (lti (rowsR k)), none, none]) (fun i hi => by
    have hz := hp i (by omega)
    have hz2 := hp (i + 1) (by omega)
    have c1 : cCompL (tmName 3) cYes C.e__law_readings_1 [3] [] ((rowsR i).map ti) [some (.int m), some (lti (rowsR i)), some (.int (i : Nat)), none] = .ok (((rowsR i).map fun s => ti (s ++ [0])), [some (.int m), some (lti (rowsR i)), some (.int (i : Nat)), none]) :=
      comp_map ti (fun s => ti (s ++ [0])) (rowsR i) (fun s hs => by
        have := (rowsR_st hs).len
        simp only [turnC, C.e__law_readings_1]
        simp [szOk_of (show s.length + 1 ≤ 16777216 by omega)])
    have c2 : cCompL (tmName 3) cYes C.e__law_readings_2 [3] [] ((rowsR i).map ti) [some (.int m), some (lti (rowsR i)), some (.int (i : Nat)), none] = .ok (((rowsR i).map fun s => ti (s ++ [1])), [some (.int m), some (lti (rowsR i)), some (.int (i : Nat)), none]) :=
      comp_map ti (fun s => ti (s ++ [1])) (rowsR i) (fun s hs => by
        have := (rowsR_st hs).len
        simp only [turnC, C.e__law_readings_2]
        simp [szOk_of (show s.length + 1 ≤ 16777216 by omega)])
    have hl := rowsR_len i
    have z1 : szOk (rowsR i).length = true := szOk_of (by omega)
    have z2 : szOk ((rowsR i).length + (rowsR i).length) = true := szOk_of (by rw [Nat.pow_succ] at hz2; omega)
    refine ⟨by simp, ?_⟩
    simp only [turnF, C.b__law_readings_1]
    simp [c1, c2, z1, z2, rowsR, Function.comp_def])
  have hr : rngOk m = true := rngOk_of (by omega) (by omega)
  have hz2 : szOk m = true := szOk_of (by omega)
  have h : forL (tmName 2) C.b__law_readings_1 [2] [] ((List.range m).map fun k : Nat => D.int (k : Nat)) [some (.int m), some (.lst [.tup []]), none, none] = _ := h
  have hs : sortD [lti (rowsR m)] = .ok (lti (stands m)) := by
    cases e : rowsR m with
    | nil => have := rowsR_len m; rw [e] at this; have := Nat.pow_pos (n := m) (show 0 < 2 by omega); simp at *; omega
    | cons x xs =>
      have ok : sortOk (x :: xs) = true := by
        unfold sortOk
        cases m with
        | zero => simp [rowsR] at e; obtain ⟨rfl, rfl⟩ := e; rfl
        | succ m =>
          rw [Bool.or_eq_true]
          right
          rw [← e, List.all_eq_true]
          intro y hy
          have := (rowsR_st hy).len
          cases y with
          | nil => simp at this
          | cons => rfl
      have := sortD_tups ok
      rw [← e] at this
      rw [← e, this, stands_sorted (rowsR_perm m)]
  generalize lti (rowsR m) = F at h hs
  simp only [C.g__law_readings, C.m__law_readings]
  simp [e_fnP, hr, hz2, h, hs]
end H

set_option Elab.async false
set_option linter.all false
set_option maxRecDepth 100000
set_option exponentiation.threshold 300
namespace H
open PySem PySem.Spec PyProof.Rows L2 Y
/-- for over range(n), by what holds at each turn -/
theorem for_inx {tm : GM} {body : SM} {vs ws : List Nat} (F : Nat → D) (I : Nat → Y.Env → Prop) (n : Nat) (ρ : Y.Env) (h0 : I 0 ρ)
    (hs : ∀ i ρ, i < n → I i ρ → ∃ ρ', turnF tm body vs (F i) ρ = .ok (.nx, ρ') ∧ I (i + 1) ρ' ∧ ∀ w ∈ ws, ρ'[w]? = ρ[w]?) : ∃ ρ', forL tm body vs ws ((List.range n).map F) ρ = .ok (.nx, ρ') ∧ I n ρ' := by
  have : ∀ (k i : Nat) (ρ : Y.Env), i + k = n → I i ρ → ∃ ρ', forL tm body vs ws ((List.range' i k).map F) ρ = .ok (.nx, ρ') ∧ I n ρ' := by
    intro k
    induction k with
    | zero => intro i ρ e h; exact ⟨ρ, rfl, by rw [← e]; exact h⟩
    | succ k ih =>
      intro i ρ e h
      obtain ⟨ρ1, e1, h1, w1⟩ := hs i ρ (by omega) h
      obtain ⟨ρ2, e2, h2⟩ := ih (i + 1) ρ1 (by omega) h1
      rw [List.range'_succ, List.map_cons]
      exact ⟨ρ2, for_cons e1 w1 e2, h2⟩
  rw [List.range_eq_range']
  exact this n 0 ρ (by omega) h0
theorem sub_range {es : List Nat} {m : Nat} (h : es.Pairwise (· < ·)) (hm : ∀ x ∈ es, x < m) : es.Sublist (List.range m) := by
  have e : es = (List.range m).filter fun k => decide (k ∈ es) := by
    have hf : ((List.range m).filter fun k => decide (k ∈ es)).Pairwise (· < ·) := List.Pairwise.filter _ List.pairwise_lt_range
    refine List.Perm.eq_of_pairwise (le := fun a b : Nat => a < b) (fun a b _ _ h1 h2 => by omega) h hf ?_
    refine (List.perm_ext_iff_of_nodup (h.imp fun h => by omega) (hf.imp fun h => by omega)).mpr fun k => ?_
    rw [List.mem_filter, List.mem_range, decide_eq_true_eq]
    exact ⟨fun h => ⟨hm k h, h⟩, fun h => h.2⟩
  rw [e]
  exact List.filter_sublist
/-- whole numbers, none twice, sorted: a part of a range -/
theorem sort_sub {E : List Nat} {m : Nat} (hn : E.Nodup) (hm : ∀ x ∈ E, x < m) : ∃ es : List Nat, sortI (E.map fun k : Nat => (k : Int)) = es.map (fun k : Nat => (k : Int)) ∧ es.Sublist (List.range m) ∧ es.length = E.length := by
  have p := sortI_perm (E.map fun k : Nat => (k : Int))
  have pw := sortI_pw (E.map fun k : Nat => (k : Int))
  generalize sortI (E.map fun k : Nat => (k : Int)) = S at p pw
  have nn : ∀ x ∈ S, 0 ≤ x ∧ x < m := fun x hx => by
    obtain ⟨k, hk, rfl⟩ := List.mem_map.mp (p.mem_iff.mp hx)
    have := hm k hk
    omega
  have e : S = (S.map Int.toNat).map fun k : Nat => (k : Int) := by
    rw [List.map_map]
    conv => lhs; rw [← List.map_id S]
    exact List.map_congr_left fun x hx => by
      have := nn x hx
      show x = ((x.toNat : Nat) : Int)
      omega
  refine ⟨S.map Int.toNat, e, sub_range ?_ fun x hx => ?_, ?_⟩
  · have nd : S.Nodup := p.nodup_iff.mpr (by
      refine List.pairwise_map.mpr (hn.imp fun {a b} h z => h ?_)
      exact_mod_cast z)
    rw [List.pairwise_map]
    have := List.Pairwise.and pw nd
    refine List.Pairwise.imp_of_mem (fun {a b} ha hb h => ?_) this
    have h1 := nn a ha
    have h2 := nn b hb
    have h3 := h.1
    have h4 : a ≠ b := h.2
    omega
  · obtain ⟨y, hy, rfl⟩ := List.mem_map.mp hx
    have := nn y hy
    omega
  · have := p.length_eq
    simpa using this
theorem erase_map {α β : Type} {f : α → β} : ∀ {xs : List α} {j : Nat}, (xs.map f).eraseIdx j = (xs.eraseIdx j).map f
  | [], _ => by simp
  | x :: xs, 0 => by simp
  | x :: xs, j + 1 => by simp [erase_map (xs := xs)]
theorem pick_perm {α : Type} : ∀ {xs : List α} {j : Nat} (h : j < xs.length), (xs[j] :: xs.eraseIdx j).Perm xs
  | x :: xs, 0, _ => by simp
  | x :: xs, j + 1, h => by
    have h : j < xs.length := by simpa using h
    have := pick_perm h
    rw [List.eraseIdx_cons_succ, List.getElem_cons_succ]
    exact (List.Perm.swap x xs[j] (xs.eraseIdx j)).trans (this.cons x)
theorem nls_rg {n : Int} : nls (rgD 0 n) = true := nls_map fun _ _ => by simp
theorem rule2_any {n : Int} {m : Nat} (hm : m ≤ 100) : ∃ (r : RuleT) (n' : Int), C.g__law_rule_2 [.lst [.int n], .int m] = .ok (.fr (dRule r), [some (.lst [.int n']), none]) ∧ RuleOk m r := by
  obtain ⟨M, hM⟩ : ∃ M : Nat, min (n % 5) (m : Int) = M := ⟨(min (n % 5) (m : Int)).toNat, by have := Int.emod_nonneg n (b := 5) (by omega); omega⟩
  have hM4 : M ≤ 4 ∧ M ≤ m := by have := Int.emod_lt_of_pos n (b := 5) (by omega); omega
  obtain ⟨ρ1, hl, n1, L, E, o, eρ, pm, el⟩ := for_inx (tm := tmName 4) (body := C.b__law_rule_2_1) (vs := []) (ws := []) (fun k : Nat => D.int (k : Nat))
    (fun i ρ => ∃ (b : Int) (L E : List Nat) (o : Option D), ρ = [some (.lst [.int b]), some (.int m), some (ln' L), some (ln' E), o, none, none, none, none, none, none, none] ∧ (E ++ L).Perm (List.range m) ∧ E.length = i) M
    [some (.lst [.int (n / 5)]), some (.int m), some (ln' (List.range m)), some (.lst []), none, none, none, none, none, none, none, none]
    ⟨n / 5, List.range m, [], none, rfl, by simp, rfl⟩ (fun i ρ hi ⟨b, L, E, o, eρ, pm, el⟩ => by
      subst eρ
      have ll : L.length = m - i := by have := pm.length_eq; rw [List.length_append, List.length_range] at this; omega
      have tk := take2_ok (n := b) (m := L.length) (by omega) (by omega)
      obtain ⟨j, hj⟩ : ∃ j : Nat, b % (L.length : Int) = j := ⟨(b % (L.length : Int)).toNat, by have := Int.emod_nonneg b (b := (L.length : Int)) (by omega); omega⟩
      have hjl : j < L.length := by have := Int.emod_lt_of_pos b (b := (L.length : Int)) (by omega); omega
      have ix := ixN_nat (n := L.length) (k := j) hjl
      have zl : szOk L.length = true := szOk_of (by omega)
      have ze : szOk (E.length + 1) = true := szOk_of (by omega)
      refine ⟨[some (.lst [.int (b / L.length)]), some (.int m), some (ln' (L.eraseIdx j)), some (ln' (E ++ [L[j]])), some (.int i), none, none, none, none, none, none, none], ?_, ⟨_, L.eraseIdx j, E ++ [L[j]], _, rfl, ?_, by simp [el]⟩, by simp⟩
      · simp only [turnF, C.b__law_rule_2_1]
        simp [tk, hj, popRes, zl, ze, ix, hjl, erase_map]
      · have := pick_perm hjl
        rw [List.append_assoc]
        exact (List.Perm.append_left E this).trans pm)
  subst eρ
  have nd : E.Nodup := by
    have : (E ++ L).Nodup := pm.nodup_iff.mpr List.nodup_range
    exact (List.pairwise_append.mp this).1
  have em : ∀ x ∈ E, x < m := fun x hx => List.mem_range.mp (pm.mem_iff.mp (by simp [hx]))
  obtain ⟨es, hs, sub, le⟩ := sort_sub nd em
  have hsd : sortD [ln' E] = .ok (.lst ((es.map fun k : Nat => (k : Int)).map D.int)) := by
    have : ln' E = .lst ((E.map fun k : Nat => (k : Int)).map D.int) := by rw [List.map_map]; rfl
    rw [this, d_sortN, hs]
  have rok : ∀ t : List Int, t.length = 2 ^ E.length → (∀ x ∈ t, 0 ≤ x ∧ x < 2) → RuleOk m (es.map (fun k : Nat => (k : Int)), t) := fun t h1 h2 => ⟨by simp [le]; omega, ⟨es, rfl, sub⟩, by simpa [le] using h1, h2⟩
  have rd := readings_ok (m := E.length) (by omega)
  have sl := stands_len E.length
  have pw : 2 ^ E.length ≤ 16 := Nat.pow_le_pow_right (n := 2) (by omega) (show E.length ≤ 4 by omega)
  have zE : szOk E.length = true := szOk_of (by omega)
  have rE : rngOk E.length = true := rngOk_of (by omega) (by omega)
  have zS : szOk (stands E.length).length = true := szOk_of (by omega)
  have rM : rngOk M = true := rngOk_of (by omega) (by omega)
  have zM : szOk M = true := szOk_of (by omega)
  have rg := rgB_of (n := m) (by omega)
  have rg0 : ln' (List.range m) = .lst (rgD 0 m) := by rw [rgD_nat]
  rw [rg0] at hl
  have t3 : ∀ b : Int, C.g__law_take_2 [.lst [.int b], .int 3] = .ok (.vl (.int (b % 3)), [some (.lst [.int (b / 3)]), none]) := fun b => take2_ok (by omega) (by omega)
  have t2 : ∀ b : Int, C.g__law_take_2 [.lst [.int b], .int 2] = .ok (.vl (.int (b % 2)), [some (.lst [.int (b / 2)]), none]) := fun b => take2_ok (by omega) (by omega)
  have t5 : C.g__law_take_2 [.lst [.int n], .int 5] = .ok (.vl (.int (n % 5)), [some (.lst [.int (n / 5)]), none]) := take2_ok (by omega) (by omega)
  have tl : ∀ b : Int, C.g__law_take_2 [.lst [.int b], .int ((E.length : Nat) + 2)] = .ok (.vl (.int (b % ((E.length : Nat) + 2))), [some (.lst [.int (b / ((E.length : Nat) + 2))]), none]) := fun b => take2_ok (by omega) (by omega)
  have hlen : lenD [ln' E] = .ok (.int E.length) := by simp
  have hmu : D.shallow (ln' E) = true := by simp [nls_all]
  have hix : itD (ln' E) = .ok (E.map fun k : Nat => D.int (k : Nat)) := rfl
  generalize hX : ln' E = XE at hl hsd hlen hmu hix
  generalize hSt : lti (stands E.length) = XS at rd
  by_cases w0 : n1 % 3 = 0
  · obtain ⟨ts, n2, e2, l2, p2⟩ := comp_ex (tm := tmName 11) (t := cYes) (e := C.e__law_rule_2_1) (vs := [11]) (ws := []) ti D.int (fun b : Int => [some (.lst [.int b]), some (.int m), some (ln' L), some XE, o, some XS, some (.int 0), none, none, none, none, none]) (fun x : Int => 0 ≤ x ∧ x < 2) (stands E.length) (n1 / 3) (fun b st hst => by
      refine ⟨b % 2, b / 2, ?_, by omega, by simp⟩
      simp only [turnC, C.e__law_rule_2_1]
      simp [t2])
    refine ⟨(es.map (fun k : Nat => (k : Int)), ts), n2, ?_, rok ts (by rw [l2, sl]) p2⟩
    subst hSt
    simp only [C.g__law_rule_2, C.m__law_rule_2]
    generalize C.b__law_rule_2_1 = B1 at hl ⊢
    simp [e_fnD, t5, hM, rM, zM, rg, hl, shAt, chkO_ws, nls_rg, hmu, hlen, rd, t3, w0, hsd, zS, e2]
  · -- by how many of its ears
    have tab : ∀ (ss : List Int) (x0 x2 x6 : Option D) (le : Int) (o : Option D), ss.length = E.length → ∃ (ts : List Int) (o' : Option D), cCompL (tmName 11) cYes C.e__law_rule_2_5 [11] [] ((stands E.length).map ti) [x0, some (.int m), x2, some XE, o, some XS, x6, some (.lst (ss.map D.int)), some (.int le), none, none, none] = .ok (ts.map D.int, [x0, some (.int m), x2, some XE, o', some XS, x6, some (.lst (ss.map D.int)), some (.int le), none, none, none]) ∧ ts.length = 2 ^ E.length ∧ ∀ x ∈ ts, 0 ≤ x ∧ x < 2 := fun ss x0 x2 x6 le o hl => by
      obtain ⟨ts, o', e, l, p⟩ := comp_ex (tm := tmName 11) (t := cYes) (e := C.e__law_rule_2_5) (vs := [11]) (ws := []) ti D.int (fun o : Option D => [x0, some (.int m), x2, some XE, o, some XS, x6, some (.lst (ss.map D.int)), some (.int le), none, none, none]) (fun x : Int => 0 ≤ x ∧ x < 2) (stands E.length) o (fun o st hst => by
        have hs := stands_st hst
        have inner : cCompL (tmName 4) C.t__law_rule_2_4 C.e__law_rule_2_4 [4] [] ((List.range E.length).map fun k : Nat => D.int (k : Nat)) [x0, some (.int m), x2, some XE, none, some XS, x6, some (.lst (ss.map D.int)), some (.int le), none, none, some (ti st)] = .ok (((List.range E.length).filter fun k => decide (st.getD k 0 = ss.getD k 0)).map fun k : Nat => D.int (k : Nat), [x0, some (.int m), x2, some XE, none, some XS, x6, some (.lst (ss.map D.int)), some (.int le), none, none, some (ti st)]) :=
          comp_filter (fun k : Nat => D.int (k : Nat)) (fun k => decide (st.getD k 0 = ss.getD k 0)) (fun k : Nat => D.int (k : Nat)) (List.range E.length) (fun k hk => by
            have hk := List.mem_range.mp hk
            have a1 := atI_mapI (xs := st) (i := k) (by omega) (by rw [hs.len]; omega)
            have a2 := atI_mapI (xs := ss) (i := k) (by omega) (by omega)
            simp only [Int.toNat_natCast] at a1 a2
            simp only [turnC, C.t__law_rule_2_4, C.e__law_rule_2_4]
            simp [a1, a2, ixD, -List.getD_eq_getElem?_getD]
            split <;> rfl)
        refine ⟨if le ≤ (((List.range E.length).filter fun k => decide (st.getD k 0 = ss.getD k 0)).length : Nat) then 1 else 0, none, ?_, by split <;> omega, by simp⟩
        generalize ((List.range E.length).filter fun k => decide (st.getD k 0 = ss.getD k 0)) = Fl at inner ⊢
        simp only [turnC, C.e__law_rule_2_5]
        simp [hlen, rE, zE, inner])
      exact ⟨ts, o', e, by rw [l, sl], p⟩
    have ones : ∀ (x0 x2 x4 x6 x7 : Option D), cCompL (tmName 10) cYes C.e__law_rule_2_2 [10] [3] (E.map fun k : Nat => D.int (k : Nat)) [x0, some (.int m), x2, some XE, x4, some XS, x6, x7, none, none, none, none] = .ok ((E.map fun _ => (1 : Int)).map D.int, [x0, some (.int m), x2, some XE, x4, some XS, x6, x7, none, none, none, none]) := fun x0 x2 x4 x6 x7 => by
      rw [List.map_map]
      exact comp_map (fun k : Nat => D.int (k : Nat)) (fun _ => D.int 1) E fun k hk => by
        simp only [turnC, C.e__law_rule_2_2]
        simp
    by_cases w1 : n1 % 3 = 1
    · obtain ⟨ss, n2, e2, l2, p2⟩ := comp_ex (tm := tmName 10) (t := cYes) (e := C.e__law_rule_2_3) (vs := [10]) (ws := [3]) (fun k : Nat => D.int (k : Nat)) D.int (fun b : Int => [some (.lst [.int b]), some (.int m), some (ln' L), some XE, o, some XS, some (.int 1), some (.lst ((E.map fun _ => (1 : Int)).map D.int)), none, none, none, none]) (fun x : Int => True) E (n1 / 3) (fun b k hk => by
        refine ⟨b % 2, b / 2, ?_, trivial, by simp⟩
        simp only [turnC, C.e__law_rule_2_3]
        simp [t2])
      obtain ⟨ts, o', e3, l3, p3⟩ := tab ss (some (.lst [.int (n2 / ((E.length : Nat) + 2))])) (some (ln' L)) (some (.int 1)) (n2 % ((E.length : Nat) + 2)) o l2
      refine ⟨(es.map (fun k : Nat => (k : Int)), ts), n2 / ((E.length : Nat) + 2), ?_, rok ts l3 p3⟩
      subst hSt
      have on := ones (some (.lst [.int (n1 / 3)])) (some (ln' L)) o (some (.int 1)) none
      simp only [C.g__law_rule_2, C.m__law_rule_2]
      generalize C.b__law_rule_2_1 = B1 at hl ⊢
      generalize (E.map fun _ => (1 : Int)).map D.int = ON at on e2
      simp [e_fnD, t5, hM, rM, zM, rg, hl, shAt, chkO_ws, nls_rg, hmu, hlen, rd, t3, w1, hsd, zS, hix, zE, on, e2, tl, e3]
      trace_state
    · obtain ⟨ts, o', e3, l3, p3⟩ := tab (E.map fun _ => (1 : Int)) (some (.lst [.int (n1 / 3 / ((E.length : Nat) + 2))])) (some (ln' L)) (some (.int (n1 % 3))) (n1 / 3 % ((E.length : Nat) + 2)) o (by simp)
      refine ⟨(es.map (fun k : Nat => (k : Int)), ts), n1 / 3 / ((E.length : Nat) + 2), ?_, rok ts l3 p3⟩
      subst hSt
      have on := ones (some (.lst [.int (n1 / 3)])) (some (ln' L)) o (some (.int (n1 % 3))) none
      simp only [C.g__law_rule_2, C.m__law_rule_2]
      generalize C.b__law_rule_2_1 = B1 at hl ⊢
      generalize (E.map fun _ => (1 : Int)).map D.int = ON at on e3
      simp [e_fnD, t5, hM, rM, zM, rg, hl, shAt, chkO_ws, nls_rg, hmu, hlen, rd, t3, w0, w1, hsd, zS, hix, zE, on, tl, e3]
      trace_state
theorem rule2_ok {n : Int} {m : Nat} (h1 : 1 ≤ m) (hm : m ≤ 100) : ∃ (r : RuleT) (n' : Int), C.g__law_rule_2 [.lst [.int n], .int m] = .ok (.fr (dRule r), [some (.lst [.int n']), none]) ∧ RuleOk m r := rule2_any hm
end H

set_option Elab.async false
set_option linter.all false
set_option maxRecDepth 100000
namespace H
open PySem PySem.Spec PyProof.Rows L2 Y
/-- for x in xs: if not p x: return rv -/
theorem for_all {α : Type} {tm : GM} {body : SM} {vs ws : List Nat} (F : α → D) (p : α → Bool) (rv : Hd) : ∀ (xs : List α) (ρ : Y.Env), (∀ x ∈ xs, p x = true → turnF tm body vs (F x) ρ = .ok (.nx, ρ)) → (∀ x ∈ xs, p x = false → ∃ ρ', turnF tm body vs (F x) ρ = .ok (.rt rv, ρ')) →
    ∃ ρ', forL tm body vs ws (xs.map F) ρ = if xs.all p = true then .ok (.nx, ρ) else .ok (.rt rv, ρ')
  | [], ρ, _, _ => ⟨ρ, rfl⟩
  | x :: xs, ρ, h1, h2 => by
    cases e : p x with
    | true =>
      obtain ⟨ρ', h⟩ := for_all F p rv xs ρ (fun y hy => h1 y (by simp [hy])) (fun y hy => h2 y (by simp [hy]))
      refine ⟨ρ', ?_⟩
      rw [List.map_cons, for_cons (h1 x (by simp) e) (fun _ _ => rfl) h, List.all_cons, e]
      rfl
    | false =>
      obtain ⟨ρ', h⟩ := h2 x (by simp) e
      refine ⟨ρ', ?_⟩
      rw [List.map_cons, for_rt h, List.all_cons, e]
      rfl
structure RuleLk (r : RuleT) : Prop where
  len : r.1.length ≤ 8
  tab : r.2.length = 2 ^ r.1.length
  bit : ∀ x ∈ r.2, 0 ≤ x ∧ x < 2
theorem RuleOk.lk {m : Nat} {r : RuleT} (h : RuleOk m r) : RuleLk r := ⟨Nat.le_trans h.len (by omega), h.tab, h.bit⟩
end H

set_option Elab.async false
set_option linter.all false
set_option maxRecDepth 100000
namespace H
open PySem PySem.Spec PyProof.Rows L2 Y
end H

set_option Elab.async false
set_option linter.all false
set_option maxRecDepth 100000
namespace H
open PySem PySem.Spec PyProof.Rows L2 Y
end H

set_option Elab.async false
set_option linter.all false
set_option maxRecDepth 100000
namespace H
open PySem PySem.Spec PyProof.Rows L2 Y
section
variable {α : Type}
def pkG : Nat → List α → List (List α)
  | 0, _ => [[]]
  | n + 1, [] => []
  | n + 1, x :: xs => (pkG n xs).map (x :: ·) ++ pkG (n + 1) xs
theorem pkG_map {β : Type} (f : α → β) : ∀ {n : Nat} {xs : List α}, pkG n (xs.map f) = (pkG n xs).map (List.map f)
  | 0, xs => by simp [pkG]
  | n + 1, [] => rfl
  | n + 1, x :: xs => by
    rw [List.map_cons, pkG, pkG, List.map_append, pkG_map f, pkG_map f, List.map_map, List.map_map]
    rfl
/-- by places -/
theorem pkG_at {n : Nat} : ∀ {xs : List α}, pkG (n + 1) xs = (List.range xs.length).flatMap fun i => match xs[i]? with
    | some x => (pkG n (xs.drop (i + 1))).map (x :: ·)
    | none => []
  | [] => rfl
  | x :: xs => by
    rw [pkG, pkG_at (xs := xs), List.length_cons, List.range_succ_eq_map, List.flatMap_cons, List.flatMap_map]
    rfl
theorem pkG_mem {s : List α} : ∀ {n : Nat} {xs : List α}, s ∈ pkG n xs → s.Sublist xs ∧ s.length = n
  | 0, xs, h => by
    rw [pkG] at h
    rw [List.mem_singleton.mp h]
    exact ⟨List.nil_sublist _, rfl⟩
  | n + 1, [], h => by cases h
  | n + 1, x :: xs, h => by
    rcases List.mem_append.mp h with h | h
    · obtain ⟨t, ht, rfl⟩ := List.mem_map.mp h
      have := pkG_mem ht
      exact ⟨this.1.cons₂ _, by simp [this.2]⟩
    · have := pkG_mem h
      exact ⟨this.1.cons _, this.2⟩
def ffN : Nat → Nat → Nat
  | _, 0 => 1
  | l, n + 1 => ffN l n * (l - n)
def facN : Nat → Nat
  | 0 => 1
  | n + 1 => facN n * (n + 1)
theorem ffN_zero : ∀ {n l : Nat}, l < n → ffN l n = 0
  | 0, l, h => by omega
  | n + 1, l, h => by
    unfold ffN
    by_cases c : l < n
    · rw [ffN_zero c, Nat.zero_mul]
    · rw [show l - n = 0 by omega, Nat.mul_zero]
theorem ffN_succ : ∀ {n l : Nat}, ffN (l + 1) (n + 1) = ffN l n * (l + 1)
  | 0, l => by simp [ffN]
  | n + 1, l => by
    rw [ffN, ffN_succ, ffN, Nat.mul_assoc, Nat.mul_assoc, Nat.mul_comm (l + 1)]
    congr 2
    omega
theorem pkG_ff : ∀ {n : Nat} {xs : List α}, (pkG n xs).length * facN n ≤ ffN xs.length n
  | 0, xs => by simp [pkG, ffN, facN]
  | n + 1, [] => by simp [pkG]
  | n + 1, x :: xs => by
    have i1 := pkG_ff (n := n) (xs := xs)
    have i2 := pkG_ff (n := n + 1) (xs := xs)
    rw [pkG, List.length_append, List.length_map, List.length_cons, ffN_succ, Nat.add_mul]
    generalize hA : (pkG n xs).length = A at *
    generalize hB : (pkG (n + 1) xs).length = B at *
    generalize xs.length = l at *
    by_cases c : l < n
    · rw [ffN_zero c] at i1 ⊢
      rw [ffN_zero (show l < n + 1 by omega)] at i2
      have e1 : A * facN (n + 1) = A * facN n * (n + 1) := by rw [facN, Nat.mul_assoc]
      have e3 : A * facN n = 0 := by omega
      rw [e1, e3]
      omega
    · have e1 : A * facN (n + 1) = A * facN n * (n + 1) := by rw [facN, Nat.mul_assoc]
      have e2 : ffN l (n + 1) = ffN l n * (l - n) := rfl
      rw [e2] at i2
      have h1 : A * facN n * (n + 1) ≤ ffN l n * (n + 1) := Nat.mul_le_mul_right _ i1
      have h2 : ffN l n * (n + 1) + ffN l n * (l - n) = ffN l n * (l + 1) := by
        rw [← Nat.mul_add]
        congr 1
        omega
      omega
theorem ffN_mono : ∀ {n l m : Nat}, l ≤ m → ffN l n ≤ ffN m n
  | 0, l, m, _ => Nat.le_refl _
  | n + 1, l, m, h => Nat.mul_le_mul (ffN_mono h) (by omega)
theorem pkG_le {n : Nat} {xs : List α} (hx : xs.length ≤ 33) (hn : n ≤ 8) : (pkG n xs).length ≤ 13884156 := by
  have h1 := pkG_ff (n := n) (xs := xs)
  have h2 : ffN xs.length n ≤ ffN 33 n := ffN_mono hx
  have h3 : ∀ n, n ≤ 8 → ffN 33 n ≤ 13884156 * facN n := by decide
  have h4 : 0 < facN n := by
    have : ∀ n, 0 < facN n := fun n => by
      induction n with
      | zero => decide
      | succ n ih => exact Nat.mul_pos ih (by omega)
    exact this n
  have h5 : (pkG n xs).length * facN n ≤ 13884156 * facN n := Nat.le_trans h1 (Nat.le_trans h2 (h3 n hn))
  exact Nat.le_of_mul_le_mul_right h5 h4
/-- as far as place i -/
def pkP (n : Nat) (xs : List α) (i : Nat) : List (List α) := (List.range i).flatMap fun i => match xs[i]? with
    | some x => (pkG n (xs.drop (i + 1))).map (x :: ·)
    | none => []
theorem pkP_succ {n i : Nat} {xs : List α} {x : α} (h : xs[i]? = some x) : pkP n xs (i + 1) = pkP n xs i ++ (pkG n (xs.drop (i + 1))).map (x :: ·) := by
  unfold pkP
  rw [List.range_succ, List.flatMap_append, List.flatMap_cons, List.flatMap_nil, List.append_nil]
  simp only [h]
theorem pkP_all {n : Nat} {xs : List α} : pkP n xs xs.length = pkG (n + 1) xs := pkG_at.symm
theorem pkP_le {n : Nat} {xs : List α} : ∀ {i : Nat}, i ≤ xs.length → (pkP n xs i).length ≤ (pkG (n + 1) xs).length := by
  intro i hi
  rw [← pkP_all]
  unfold pkP
  rw [show xs.length = i + (xs.length - i) by omega, List.range_add, List.flatMap_append, List.length_append]
  exact Nat.le_add_right _ _
end
abbrev lt' (xs : List (List D)) : D := .lst (xs.map D.tup)
theorem pickG_ok : ∀ {n k : Nat} {xs : List D}, n < k → xs.length ≤ 33 → n ≤ 8 → C.r_picked k [.lst xs, .int n] = .ok (.fr (lt' (pkG n xs)))
  | n, 0, xs, h, _, _ => absurd h (by omega)
  | 0, k + 1, xs, _, hl, _ => by
    have z1 : szOk 1 = true := szOk_of (by omega)
    have z0 : szOk 0 = true := szOk_of (by omega)
    simp only [C.r_picked, C.m_picked]
    simp [e_fnP, pkG, z1, z0]
  | n + 1, k + 1, xs, h, hl, hn => by
    have go : ∀ i, C.r_picked k [.lst (xs.drop (i + 1)), .int n] = .ok (.fr (lt' (pkG n (xs.drop (i + 1))))) := fun i => pickG_ok (by omega) (by rw [List.length_drop]; omega) (by omega)
    have sb : subD (.int ((n + 1 : Nat) : Int)) (.int 1) = .ok (.int (n : Nat)) := by
      rw [d_sub]
      have : ((n + 1 : Nat) : Int) - 1 = (n : Int) := by omega
      rw [this]
    have ne : eqD (.int ((n + 1 : Nat) : Int)) (.int 0) = .ok (.bl false) := by
      rw [eqD_int, decide_eq_false (by omega)]
    have top := pkG_le (n := n + 1) (xs := xs) hl hn
    generalize ((n + 1 : Nat) : Int) = n1 at *
    have lp := for_idx (tm := tmName 3) (body := C.b_picked_1 (C.r_picked k)) (vs := [3]) (ws := []) (fun i : Nat => D.int (i : Nat)) (List.range xs.length) (fun i => [some (.lst xs), some (.int n1), some (lt' (pkP n xs i)), none, none]) fun i hi => by
      rw [List.length_range] at hi
      refine ⟨by simp, ?_⟩
      rw [List.getElem_range]
      have ex : xs[i]? = some xs[i] := List.getElem?_eq_getElem hi
      rw [pkP_succ ex]
      have g := go i
      have ct : Y.cutD xs (some ((i : Int) + 1)) none = xs.drop (i + 1) := cut_from (ds := xs) (k := i + 1)
      have ai : atI xs (i : Int) = some xs[i] := atI_of (j := i) rfl ex
      have fl := pkP_le (n := n) (xs := xs) (i := i + 1) (by omega)
      rw [pkP_succ ex, List.length_append, List.length_map] at fl
      have rl := pkG_le (n := n) (xs := xs.drop (i + 1)) (by rw [List.length_drop]; omega) (by omega)
      generalize xs[i] = x at *
      generalize xs.drop (i + 1) = O at *
      generalize pkP n xs i = FL at *
      have c2 := comp_map (tm := tmName 4) (t := cYes) (e := C.e_picked_1 (C.r_picked k)) (vs := [4]) (ws := []) (ρ := [some (.lst xs), some (.int n1), some (lt' FL), some (.int i), none]) D.tup (fun r => D.tup (x :: r)) (pkG n O) fun r hr => by
        have rl := (pkG_mem hr).2
        have z : szOk (1 + r.length) = true := szOk_of (by omega)
        have z' : szOk (r.length + 1) = true := szOk_of (by omega)
        simp only [turnC, C.e_picked_1]
        generalize lt' FL = F2 at *
        simp [z, z', szOk_of, ai]
      have m1 : (pkG n O).map (fun r => D.tup (x :: r)) = ((pkG n O).map fun r => x :: r).map D.tup := by rw [List.map_map]; rfl
      rw [m1] at c2
      have el : lt' (FL ++ (pkG n O).map fun r => x :: r) = .lst (FL.map D.tup ++ ((pkG n O).map fun r => x :: r).map D.tup) := by show D.lst _ = _; rw [List.map_append]
      have zf : szOk ((FL.map D.tup).length + (((pkG n O).map fun r => x :: r).map D.tup).length) = true := szOk_of (by rw [List.length_map, List.length_map, List.length_map]; omega)
      have zr : szOk ((pkG n O).map D.tup).length = true := szOk_of (by rw [List.length_map]; omega)
      have q3 : lt' FL = .lst (FL.map D.tup) := rfl
      have q4 : lt' (pkG n O) = .lst ((pkG n O).map D.tup) := rfl
      rw [q4] at g
      rw [q3] at c2
      rw [el, q3]
      simp only [turnF, C.b_picked_1]
      generalize C.e_picked_1 (C.r_picked k) = E2 at *
      generalize (((pkG n O).map fun r => x :: r).map D.tup) = A1 at *
      generalize (pkG n O).map D.tup = A2 at *
      generalize FL.map D.tup = A3 at *
      simp [ct, sb, g, zr, c2, zf, -d_sub]
    rw [List.length_range, pkP_all] at lp
    have lp : forL (tmName 3) (C.b_picked_1 (C.r_picked k)) [3] [] ((List.range xs.length).map fun i : Nat => D.int (i : Nat)) [some (.lst xs), some (.int n1), some (.lst []), none, none] = _ := lp
    have ln : lenD [.lst xs] = .ok (.int xs.length) := by simp
    have rk : rngOk (xs.length : Nat) = true := rngOk_of (by omega) (by omega)
    have zk : szOk xs.length = true := szOk_of (by omega)
    have z0 : szOk 0 = true := szOk_of (by omega)
    simp only [C.r_picked, C.m_picked]
    generalize C.b_picked_1 (C.r_picked k) = B at *
    generalize lt' (pkG (n + 1) xs) = LX at *
    generalize hL : xs.length = L at *
    simp [e_fnP, ne, lp, hL, rk, zk, z0, -eqD_int]
end H

set_option Elab.async false
set_option linter.all false
set_option maxRecDepth 100000
namespace H
open PySem PySem.Spec PyProof.Rows L2 Y
end H

set_option Elab.async false
set_option linter.all false
set_option maxRecDepth 100000
namespace H
open PySem PySem.Spec PyProof.Rows L2 Y
end H

set_option Elab.async false
set_option linter.all false
set_option maxRecDepth 100000
namespace H
open PySem PySem.Spec PyProof.Rows L2 Y
theorem for_pre {α : Type} {tm : GM} {body : SM} {vs ws : List Nat} {F : α → D} {hd : Hd} {x : α} {post : List α} {ρ : Y.Env} (h2 : ∃ ρ', turnF tm body vs (F x) ρ = .ok (.rt hd, ρ')) : ∀ (pre : List α), (∀ y ∈ pre, turnF tm body vs (F y) ρ = .ok (.nx, ρ)) → ∃ ρ', forL tm body vs ws ((pre ++ x :: post).map F) ρ = .ok (.rt hd, ρ')
  | [], _ => by
    obtain ⟨ρ', t⟩ := h2
    exact ⟨ρ', for_rt t⟩
  | y :: pre, h => by
    obtain ⟨ρ', r⟩ := for_pre h2 pre fun z hz => h z (by simp [hz])
    exact ⟨ρ', for_cons (h y (by simp)) (fun _ _ => rfl) r⟩
theorem for_until {tm : GM} {body : SM} {vs ws : List Nat} {F : Nat → D} {hd : Hd} {m n : Nat} {ρ : Y.Env} (hm : m < n) (h1 : ∀ k, k < m → turnF tm body vs (F k) ρ = .ok (.nx, ρ)) (h2 : ∃ ρ', turnF tm body vs (F m) ρ = .ok (.rt hd, ρ')) : ∃ ρ', forL tm body vs ws ((List.range n).map F) ρ = .ok (.rt hd, ρ') := by
  have e : List.range n = List.range m ++ m :: (List.range (n - m - 1)).map (fun x => m + 1 + x) := by
    have e0 : n = m + 1 + (n - m - 1) := by omega
    conv => lhs; rw [e0, List.range_add, List.range_succ, List.append_assoc]
    rfl
  rw [e]
  exact for_pre h2 _ fun y hy => h1 y (List.mem_range.mp hy)
theorem leastN {P : Nat → Prop} : ∀ n, P n → ∃ m, m ≤ n ∧ P m ∧ ∀ k, k < m → ¬ P k := fun n => by
  induction n using Nat.strongRecOn with
  | ind n ih =>
    intro h
    by_cases c : ∃ k, k < n ∧ P k
    · obtain ⟨k, k1, k2⟩ := c
      obtain ⟨m, m1, m2, m3⟩ := ih k k1 k2
      exact ⟨m, by omega, m2, m3⟩
    · exact ⟨n, Nat.le_refl _, h, fun k hk z => c ⟨k, hk, z⟩⟩
section
variable {r : RuleT} {bit : Int} {ys : List (List Nat)}
end
end H

set_option Elab.async false
set_option linter.all false
set_option maxRecDepth 100000
namespace H
open PySem PySem.Spec PyProof.Rows L2 Y
section
variable {r : RuleT} {bit : Int}
end
end H

set_option Elab.async false
set_option linter.all false
set_option maxRecDepth 100000
namespace H
open PySem PySem.Spec PyProof.Rows L2 Y
end H

set_option Elab.async false
set_option linter.all false
set_option maxRecDepth 100000
namespace H
open PySem PySem.Spec PyProof.Rows L2 Y
end H

set_option Elab.async false
set_option linter.all false
set_option maxRecDepth 100000
namespace H
open PySem PySem.Spec PyProof.Rows L2 Y
section
variable {r : RuleT}
end
end H

set_option Elab.async false
set_option linter.all false
set_option maxRecDepth 100000
namespace H
open PySem PySem.Spec PyProof.Rows L2 Y
theorem extend : ∀ (es : List Nat) (bs : List Int) (g : Nat → Int), es.Nodup → es.length = bs.length → ∃ h : Nat → Int, es.map h = bs ∧ ∀ j, j ∉ es → h j = g j
  | [], bs, g, _, hl => ⟨g, by rw [List.map_nil]; exact (List.eq_nil_of_length_eq_zero hl.symm).symm, fun _ _ => rfl⟩
  | e :: es, [], g, _, hl => by simp at hl
  | e :: es, b :: bs, g, hn, hl => by
    obtain ⟨hn1, hn2⟩ := List.nodup_cons.mp hn
    obtain ⟨h, h1, h2⟩ := extend es bs g hn2 (by simpa using hl)
    refine ⟨fun j => if j = e then b else h j, ?_, fun j hj => ?_⟩
    · rw [List.map_cons, if_pos rfl, ← h1]
      congr 1
      refine List.map_congr_left fun j hj => ?_
      show (if j = e then b else h j) = h j
      rw [if_neg fun q : j = e => hn1 (q ▸ hj)]
    · show (if j = e then b else h j) = g j
      rw [if_neg fun q => hj (by simp [q]), h2 j fun q => hj (by simp [q])]
structure EarsOk (m : Nat) (r : RuleT) : Prop where
  sub : ∃ es : List Nat, r.1 = es.map (fun j : Nat => (j : Int)) ∧ es.Nodup ∧ ∀ j ∈ es, j < m
theorem RuleOk.ears {m : Nat} {r : RuleT} (h : RuleOk m r) : EarsOk m r := by
  obtain ⟨es, e1, s⟩ := h.sub
  exact ⟨es, e1, s.nodup List.nodup_range, fun j hj => List.mem_range.mp (s.subset hj)⟩
end H

set_option Elab.async false
set_option linter.all false
set_option maxRecDepth 100000
namespace H
open PySem PySem.Spec PyProof.Rows L2 Y
abbrev li (xs : List Int) : D := .lst (xs.map D.int)
theorem NetOk.lk {ns : List RuleT} {most k : Nat} (h : NetOk ns most) (hk : k < ns.length) : RuleOk ns.length (ns.getD k ([], [])) := by
  rw [List.getD_eq_getElem?_getD, List.getElem?_eq_getElem hk]
  exact h.rule _ (List.getElem_mem hk)
theorem fit_li {n : Nat} {xs : List Int} : Fit (n + 1) (li xs) := fun d h => by
  obtain ⟨x, _, rfl⟩ := List.mem_map.mp h
  cases n <;> trivial
end H

set_option Elab.async false
set_option linter.all false
set_option maxRecDepth 100000
namespace H
open PySem PySem.Spec PyProof.Rows L2 Y
end H

set_option Elab.async false
set_option linter.all false
set_option maxRecDepth 100000
namespace H
open PySem PySem.Spec PyProof.Rows L2 Y
def Nd : Nat → D → Prop
  | 0, d => noDit d = true
  | n + 1, d => noDit d = true ∧ ∀ xs, d = .tup xs → xs.length ≤ 1000000 ∧ ∀ x ∈ xs, Nd n x
theorem Nd.no : ∀ {n : Nat} {d : D}, Nd n d → noDit d = true
  | 0, _, h => h
  | _ + 1, _, h => h.1
theorem Nd.down : ∀ {n : Nat} {d : D}, Nd (n + 1) d → Nd n d
  | 0, _, h => h.1
  | n + 1, _, h => ⟨h.1, fun xs e => ⟨(h.2 xs e).1, fun x hx => Nd.down ((h.2 xs e).2 x hx)⟩⟩
theorem nd_flat {n : Nat} {d : D} (h : noDit d = true) (h2 : ∀ xs, d ≠ .tup xs) : Nd n d := by
  cases n with
  | zero => exact h
  | succ n => exact ⟨h, fun xs e => absurd e (h2 xs)⟩
@[simp] theorem nd_int {n : Nat} {i : Int} : Nd n (.int i) := nd_flat rfl (by simp)
@[simp] theorem nd_bl {n : Nat} {b : Bool} : Nd n (.bl b) := nd_flat rfl (by simp)
@[simp] theorem nd_non {n : Nat} : Nd n .non := nd_flat rfl (by simp)
@[simp] theorem nd_str {n : Nat} {x : Str} : Nd n (.str x) := nd_flat rfl (by simp)
@[simp] theorem nd_lst {n : Nat} {x : List D} : Nd n (.lst x) := nd_flat rfl (by simp)
@[simp] theorem nd_dik {n : Nat} {k : List Key} {x : List D} : Nd n (.dik k x) := nd_flat rfl (by simp)
theorem nd_tup {n : Nat} {xs : List D} (hl : xs.length ≤ 1000000) (h : ∀ x ∈ xs, Nd n x) : Nd (n + 1) (.tup xs) := ⟨rfl, fun ys e => by cases e; exact ⟨hl, h⟩⟩
theorem Nd.tup {n : Nat} {xs : List D} (h : Nd (n + 1) (.tup xs)) : xs.length ≤ 1000000 ∧ ∀ x ∈ xs, Nd n x := h.2 xs rfl
theorem nd_ti {n : Nat} {xs : List Int} (hl : xs.length ≤ 1000000) : Nd n (ti xs) := by
  cases n with
  | zero => rfl
  | succ n =>
    refine nd_tup (by simpa using hl) fun x hx => ?_
    obtain ⟨y, _, rfl⟩ := List.mem_map.mp hx
    exact nd_int
theorem atI_any {L : List D} {i : Int} {p : D → Prop} (h0 : 0 ≤ i) (h : i < L.length) (hp : ∀ x ∈ L, p x) : ∃ d, atI L i = some d ∧ p d := by
  have e : atI L i = some L[i.toNat] := atI_of (j := i.toNat) (by omega) (List.getElem?_eq_getElem (by omega))
  exact ⟨_, e, hp _ (List.getElem_mem _)⟩
def whB : D → Bool
  | .int _ => true | _ => false
def upB (m : Int) : D → Bool
  | .int i => decide (0 ≤ i ∧ i < m) | _ => false
def bitsB (m : Int) : D → Bool
  | .tup xs => decide ((xs.length : Int) = m) && xs.all (upB 2) | _ => false
theorem whole_any {d : D} (h : noDit d = true) : C.g_is_whole [d] = .ok (.fr (.bl (whB d))) := by
  cases d <;> simp [noDit] at h <;> simp [C.g_is_whole, C.m_is_whole, e_fnP, noDit, Y.isInt, Y.isBl, whB]
theorem upto_any {d : D} {m : Int} (h : noDit d = true) : C.g_is_upto [d, .int m] = .ok (.fr (.bl (upB m d))) := by
  have := whole_any h
  cases d with
  | int i => exact is_upto_int
  | _ => simp [C.g_is_upto, C.m_is_upto, e_fnP, this, whB, upB]
theorem are_bits_any {d : D} {m : Int} (h : Nd 1 d) : C.g_are_bits [d, .int m] = .ok (.fr (.bl (bitsB m d))) := by
  cases d with
  | tup xs =>
    obtain ⟨hl, hx⟩ := h.tup
    have c := comp_map (tm := tmName 2) (t := cYes) (e := C.e_are_bits_1) (vs := [2]) (ws := []) (ρ := [some (.tup xs), some (.int m), none]) (fun x : D => x) (fun x => D.bl (upB 2 x)) xs (fun x hx' => by
      have := upto_any (m := 2) (hx x hx').no
      simp [turnC, C.e_are_bits_1, this])
    rw [List.map_id'] at c
    have z : szOk xs.length = true := szOk_of (by omega)
    have e2 : (xs.map fun x => D.bl (upB 2 x)) = (xs.map (upB 2)).map D.bl := by rw [List.map_map]; rfl
    have e3 : allD [.lst (xs.map fun x => D.bl (upB 2 x))] = .ok (.bl (xs.all (upB 2))) := by rw [e2, d_all, List.all_map]; rfl
    simp only [C.g_are_bits, C.m_are_bits]
    generalize C.e_are_bits_1 = e1 at c ⊢
    by_cases hm : (xs.length : Int) = m <;> simp [e_fnP, noDit, Y.isTup, z, c, e3, hm, bitsB, -d_all]
  | dit _ _ => cases h.1
  | ftu _ => cases h.1
  | tab _ _ => cases h.1
  | _ => simp [C.g_are_bits, C.m_are_bits, e_fnP, noDit, Y.isTup, bitsB]
theorem cutD_len {xs : List D} {a b : Option Int} : (Y.cutD xs a b).length ≤ xs.length := by
  unfold Y.cutD
  rw [List.length_take, List.length_drop]
  omega
theorem cutD_mem {xs : List D} {a b : Option Int} {x : D} (h : x ∈ Y.cutD xs a b) : x ∈ xs := by
  unfold Y.cutD at h
  exact List.mem_of_mem_drop (List.mem_of_mem_take h)
end H

set_option Elab.async false
set_option linter.all false
set_option maxRecDepth 100000
namespace H
open PySem PySem.Spec PyProof.Rows L2 Y
end H

set_option Elab.async false
set_option linter.all false
set_option maxRecDepth 100000
namespace H
open PySem PySem.Spec PyProof.Rows L2 Y
inductive Pap where
  | rest | against (k : Nat) | split (k : Nat) (a b : Pap)
abbrev wRest : D := dt [114, 101, 115, 116]
abbrev wAg : D := dt [97, 103, 97, 105, 110, 115, 116]
abbrev wSplit : D := dt [115, 112, 108, 105, 116]
def Pap.d : Pap → D
  | .rest => .tup [wRest]
  | .against k => .tup [wAg, .int k]
  | .split k a b => .tup [wSplit, .int k, a.d, b.d]
def Pap.ok (m : Nat) : Pap → Prop
  | .rest => True
  | .against k => k < m
  | .split k a b => k < m ∧ a.ok m ∧ b.ok m
def sign (f : List Nat) (k c : Nat) : List Nat := f.take k ++ c :: f.drop (k + 1)
theorem eq_li {xs ys : List Int} : eqD (li xs) (li ys) = .ok (.bl (decide (xs = ys))) := by
  rw [eqD_of (n := 1) fit_li fit_li, eqP_lst, eqPs_ints]
def both (x y : Option (List (List Int))) : Option (List (List Int)) := match x with
  | none => none
  | some a => match y with
    | none => none
    | some b => some (a ++ b)
end H

set_option Elab.async false
set_option linter.all false
set_option maxRecDepth 100000
namespace H
open PySem PySem.Spec PyProof.Rows L2 Y
theorem sort_lti {xs : List (List Int)} (h : ∀ x ∈ xs, x ≠ []) : sortD [lti xs] = .ok (lti (sortL xs)) := by
  cases xs with
  | nil =>
    have h1 := d_sortN (xs := [])
    have e1 : sortI [] = [] := by simp [sortI]
    have e2 : sortL [] = [] := by simp [sortL]
    rw [e1] at h1
    rw [e2]
    exact h1
  | cons x xs =>
    refine sortD_tups ?_
    unfold sortOk
    rw [Bool.or_eq_true]
    refine .inr (List.all_eq_true.mpr fun y hy => ?_)
    have := h y hy
    cases y with
    | nil => exact absurd rfl this
    | cons _ _ => rfl
end H

set_option Elab.async false
set_option linter.all false
set_option maxRecDepth 100000
namespace H
open PySem PySem.Spec PyProof.Rows L2 Y
theorem whileN_step' {t : BM} {body : SM} {vs : List Nat} {n : Nat} {ρ ρ1 ρ2 : Y.Env} (h1 : t ρ = .ok (true, ρ1)) (h2 : body ρ1 = .ok (.nx, ρ2)) : whileN t body vs (n + 1) ρ = whileN t body vs n (wipeE ρ2 vs) := by
  conv => lhs; unfold whileN
  rw [h1]
  simp only [R.bind_ok, if_true]
  rw [h2]
  rfl
def frames : Nat → List (List Nat)
  | 0 => [[]]
  | m + 1 => (frames m).flatMap fun f => [f ++ [48], f ++ [49], f ++ [45]]
end H

set_option Elab.async false
set_option linter.all false
set_option maxRecDepth 100000
namespace H
open PySem PySem.Spec PyProof.Rows L2 Y
end H

set_option Elab.async false
set_option linter.all false
set_option maxRecDepth 100000
namespace H
open PySem PySem.Spec PyProof.Rows L2 Y
def flipI (st : List Int) (k : Nat) : List Int := withI st k (1 - st.getD k 0)
def addS (L : List (List Int)) (t : List Int) : List (List Int) := if t ∈ L then L else L ++ [t]
def nextI (ns : List RuleT) (st : List Int) : List (List Int) := (wrongI ns st).map (flipI st)
def stepS (ns : List RuleT) (L : List (List Int)) (st : List Int) : List (List Int) := (nextI ns st).foldl addS L
structure InS (m : Nat) (L : List (List Int)) : Prop where
  nd : L.Nodup
  st : ∀ x ∈ L, IsSt m x
theorem nodup_len {α : Type} [DecidableEq α] : ∀ {A B : List α}, A.Nodup → (∀ x ∈ A, x ∈ B) → A.length ≤ B.length
  | [], B, _, _ => by simp
  | x :: A, B, h, s => by
    obtain ⟨h1, h2⟩ := List.nodup_cons.mp h
    have hx := s x (by simp)
    have ih := nodup_len (A := A) (B := B.erase x) h2 fun y hy => (List.mem_erase_of_ne fun z : y = x => h1 (by rw [← z]; exact hy)).mpr (s y (by simp [hy]))
    rw [List.length_erase_of_mem hx] at ih
    have : 0 < B.length := List.length_pos_of_mem hx
    rw [List.length_cons]
    omega
theorem InS.len {m : Nat} {L : List (List Int)} (h : InS m L) : L.length ≤ 2 ^ m := by
  have := nodup_len h.nd (B := stands m) fun x hx => mem_stands.mpr (h.st x hx)
  rwa [stands_len] at this
theorem InS.add {m : Nat} {L : List (List Int)} {t : List Int} (h : InS m L) (ht : IsSt m t) : InS m (addS L t) := by
  unfold addS
  by_cases c : t ∈ L
  · rwa [if_pos c]
  · rw [if_neg c]
    refine ⟨List.nodup_append.mpr ⟨h.nd, by simp, fun a ha b hb z => ?_⟩, fun x hx => ?_⟩
    · rw [List.mem_singleton] at hb
      exact c (by rw [← hb, ← z]; exact ha)
    · rcases List.mem_append.mp hx with hx | hx
      · exact h.st x hx
      · rw [List.mem_singleton] at hx
        rw [hx]; exact ht
theorem flip_st {m k : Nat} {st : List Int} (h : IsSt m st) (hk : k < m) : IsSt m (flipI st k) := by
  have g := h.get k
  refine ⟨?_, fun x hx => ?_⟩
  · unfold flipI withI
    rw [List.length_append, List.length_cons, List.length_take, List.length_drop, h.len]
    omega
  · unfold flipI withI at hx
    rcases List.mem_append.mp hx with hx | hx
    · exact h.bit x (List.mem_of_mem_take hx)
    · rcases List.mem_cons.mp hx with rfl | hx
      · omega
      · exact h.bit x (List.mem_of_mem_drop hx)
theorem wrong_lt {ns : List RuleT} {st : List Int} {k : Nat} (h : k ∈ wrongI ns st) : k < ns.length := by
  unfold wrongI at h
  exact List.mem_range.mp (List.mem_filter.mp h).1
theorem InS.step {ns : List RuleT} {L : List (List Int)} {st : List Int} (h : InS ns.length L) (hs : IsSt ns.length st) : InS ns.length (stepS ns L st) := by
  have : ∀ (ts : List (List Int)) (L : List (List Int)), InS ns.length L → (∀ t ∈ ts, IsSt ns.length t) → InS ns.length (ts.foldl addS L) := fun ts => by
    induction ts with
    | nil => intro L h _; exact h
    | cons t ts ih => intro L h ht; exact ih _ (h.add (ht t (by simp))) fun x hx => ht x (by simp [hx])
  refine this _ L h fun t ht => ?_
  obtain ⟨k, hk, rfl⟩ := List.mem_map.mp ht
  exact flip_st hs (wrong_lt hk)
abbrev kt (t : List Int) : List Key := t.map Sum.inl
theorem keys_ti : ∀ t : List Int, keysOf (t.map D.int) = some (kt t)
  | [] => rfl
  | x :: t => by
    rw [List.map_cons]
    unfold keysOf
    rw [keys_ti t]
    rfl
theorem kt_inj {a b : List Int} : kt a = kt b ↔ a = b := ⟨fun h => by
  have := congrArg (List.map fun k : Key => match k with | Sum.inl i => i | Sum.inr _ => 0) h
  simpa [kt, List.map_map, Function.comp_def] using this, fun h => by rw [h]⟩
theorem find_kt : ∀ {L : List (List Int)} {ds : List D} {t : List Int}, L.length = ds.length → (findD (L.map kt) ds (kt t)).isSome = decide (t ∈ L)
  | [], ds, t, _ => by simp [findD]
  | a :: L, [], t, h => by simp at h
  | a :: L, d :: ds, t, h => by
    have ih := find_kt (L := L) (ds := ds) (t := t) (by simpa using h)
    rw [List.map_cons]
    unfold findD
    by_cases c : a = t
    · rw [if_pos (kt_inj.mpr c)]; simp [c]
    · rw [if_neg fun z => c (kt_inj.mp z), ih]
      have : ¬ t = a := fun z => c z.symm
      simp [this]
end H

set_option Elab.async false
set_option linter.all false
set_option maxRecDepth 100000
namespace H
open PySem PySem.Spec PyProof.Rows L2 Y
end H

set_option Elab.async false
set_option linter.all false
set_option maxRecDepth 100000
namespace H
open PySem PySem.Spec PyProof.Rows L2 Y
end H

set_option Elab.async false
set_option linter.all false
set_option maxRecDepth 100000
namespace H
open PySem PySem.Spec PyProof.Rows L2 Y
theorem addS_mem {t x : List Int} {L : List (List Int)} : x ∈ addS L t ↔ x ∈ L ∨ x = t := by
  unfold addS
  split
  · rename_i c
    exact ⟨.inl, fun h => h.elim id fun e => e ▸ c⟩
  · rw [List.mem_append, List.mem_singleton]
theorem alike_ints : ∀ {a b : List Int}, PySem.W.alikeAll (toPys (a.map D.int)) (toPys (b.map D.int)) = true
  | [], _ => by simp [toPys, PySem.W.alikeAll]
  | _ :: _, [] => by simp [toPys, PySem.W.alikeAll]
  | x :: xs, y :: ys => by
    have ih := alike_ints (a := xs) (b := ys)
    simp only [List.map_cons, toPys, toPy, PySem.W.alikeAll, PySem.W.alike, ih, Bool.and_self]
end H

set_option Elab.async false
set_option linter.all false
set_option maxRecDepth 100000
namespace H
open PySem PySem.Spec PyProof.Rows L2 Y
end H

set_option Elab.async false
set_option linter.all false
set_option maxRecDepth 100000
namespace H
open PySem PySem.Spec PyProof.Rows L2 Y
end H

set_option Elab.async false
set_option linter.all false
set_option maxRecDepth 100000
namespace H
open PySem PySem.Spec PyProof.Rows L2 Y
end H

set_option Elab.async false
set_option linter.all false
set_option maxRecDepth 100000
namespace H
open PySem PySem.Spec PyProof.Rows L2 Y
end H

set_option Elab.async false
set_option linter.all false
set_option maxRecDepth 100000
namespace H
open PySem PySem.Spec PyProof.Rows L2 Y
end H

set_option Elab.async false
set_option linter.all false
set_option maxRecDepth 100000
namespace H
open PySem PySem.Spec PyProof.Rows L2 Y
end H

set_option Elab.async false
set_option linter.all false
set_option maxRecDepth 100000
namespace H
open PySem PySem.Spec PyProof.Rows L2 Y
structure NetM (m : Nat) (ns : List RuleT) : Prop where
  len : ns.length = m
  rule : ∀ r ∈ ns, RuleOk m r
theorem NetM.good {m : Nat} {ns : List RuleT} (h : NetM m ns) (hm : m ≤ 100) : GoodNet ns where
  sz := by rw [h.len]; exact hm
  ear := fun r hr => by
    have k := h.rule r hr
    refine ⟨by have := k.len; omega, fun e he => ?_, k.tab⟩
    obtain ⟨es, e1, sub⟩ := k.sub
    rw [e1] at he
    obtain ⟨j, hj, rfl⟩ := List.mem_map.mp he
    have := List.mem_range.mp (sub.subset hj)
    rw [h.len]
    omega
theorem NetM.at {m k : Nat} {ns : List RuleT} (h : NetM m ns) (hk : k < m) : RuleOk m (ns.getD k ([], [])) := by
  rw [List.getD_eq_getElem?_getD, List.getElem?_eq_getElem (by rw [h.len]; exact hk)]
  exact h.rule _ (List.getElem_mem _)
theorem NetM.bit {m k : Nat} {ns : List RuleT} {st : List Int} (h : NetM m ns) (hk : k < m) : oughtI ns st k = 0 ∨ oughtI ns st k = 1 := by
  have := getD_bit (h.at hk).bit (placeI ((ns.getD k ([], [])).1.map fun e => st.getD e.toNat 0)).toNat
  unfold oughtI tellI
  omega
theorem told_ok {ns : List RuleT} {st : List Int} {k : Nat} (g : GoodNet ns) (hs : IsSt ns.length st) (hk : k < ns.length) : C.g__law_told [dNet ns, ti st, .int k] = .ok (.vl (.int (oughtI ns st k))) := by
  obtain ⟨h1, h2, h3⟩ := g.at hk
  have h5 := read_lt hs (ns.getD k ([], [])).1
  have h6 := atI_mapI (xs := (ns.getD k ([], [])).2) h5.1 (by rw [h3]; exact_mod_cast h5.2)
  have zE : szOk (ns.getD k ([], [])).1.length = true := szOk_of (by omega)
  have na := net_at hk
  have ho : oughtI ns st k = (ns.getD k ([], [])).2.getD (placeI ((ns.getD k ([], [])).1.map fun e => st.getD e.toNat 0)).toNat 0 := rfl
  rw [ho]
  clear ho
  generalize ns.getD k ([], []) = r at *
  obtain ⟨E, Tb⟩ := r
  simp only at h1 h2 h3 h5 h6 zE
  show _ = R.ok (Hd.vl (D.int (Tb.getD (placeI (E.map fun e => st.getD e.toNat 0)).toNat 0)))
  have h4 := for_run (tm := tmName 6) (body := C.b__law_told_1) (vs := [6]) (ws := []) D.int (fun p : Int => [some (dNet ns), some (ti st), some (.int k), some (ti E), some (ti Tb), some (.int p), none]) (fun p e => 2 * p + st.getD e.toNat 0) (fun _ => True) E 0 trivial (fun p e _ he => by
    have := h2 e he
    have ml : mulOk 2 p = true := mulOk_l (by decide)
    refine ⟨trivial, by simp, ?_⟩
    simp only [turnF, C.b__law_told_1]
    simp [atI_mapI this.1 (by rw [hs.len]; exact this.2), ml, -List.getD_eq_getElem?_getD])
  have hf : E.foldl (fun p e => 2 * p + st.getD e.toNat 0) 0 = placeI (E.map fun e => st.getD e.toNat 0) := by rw [placeI, List.foldl_map]
  rw [hf] at h4
  simp only [C.g__law_told, C.m__law_told]
  simp [e_fnP, na, zE, h4.1, h6, -List.getD_eq_getElem?_getD]
inductive Tree where
  | is (i : Int) | look (st : List Int) (k : Nat) (a b : Tree)
abbrev wIs : D := dt [105, 115]
abbrev wLk : D := dt [108, 111, 111, 107]
def Tree.d : Tree → D
  | .is i => .tup [wIs, .int i]
  | .look st k a b => .tup [wLk, ti st, .int k, a.d, b.d]
def Tree.ok (m : Nat) : Tree → Prop
  | .is _ => True
  | .look st k a b => IsSt m st ∧ k < m ∧ a.ok m ∧ b.ok m
theorem i2 {a b : D} : atI [a, b] 0 = some a ∧ atI [a, b] 1 = some b := ⟨atI_of (j := 0) rfl rfl, atI_of (j := 1) rfl rfl⟩
theorem i5 {a b c d e : D} : atI [a, b, c, d, e] 0 = some a ∧ atI [a, b, c, d, e] 1 = some b ∧ atI [a, b, c, d, e] 2 = some c ∧ atI [a, b, c, d, e] 3 = some d ∧ atI [a, b, c, d, e] 4 = some e :=
  ⟨atI_of (j := 0) rfl rfl, atI_of (j := 1) rfl rfl, atI_of (j := 2) rfl rfl, atI_of (j := 3) rfl rfl, atI_of (j := 4) rfl rfl⟩
end H

set_option Elab.async false
set_option linter.all false
set_option maxRecDepth 100000
namespace H
open PySem PySem.Spec PyProof.Rows L2 Y
theorem fit_ti {n : Nat} {xs : List Int} : Fit (n + 1) (ti xs) := fun d h => by
  obtain ⟨x, _, rfl⟩ := List.mem_map.mp h
  cases n <;> trivial
theorem fit_rule {n : Nat} {r : RuleT} : Fit (n + 2) (dRule r) := fun d h => by
  simp only [List.mem_cons, List.not_mem_nil, or_false] at h
  rcases h with rfl | rfl
  · exact fit_ti
  · exact fit_ti
theorem fit_net {n : Nat} {ns : List RuleT} : Fit (n + 3) (dNet ns) := fun d h => by
  obtain ⟨r, _, rfl⟩ := List.mem_map.mp h
  exact fit_rule
theorem law_whole2_ok {i : Int} : C.g__law_whole_2 [.int i] = .ok (.fr (.bl true)) := by
  simp [C.g__law_whole_2, C.m__law_whole_2, e_fnP, noDit, Y.isInt, Y.isBl]
end H

set_option Elab.async false
set_option linter.all false
set_option maxRecDepth 100000
namespace H
open PySem PySem.Spec PyProof.Rows L2 Y
theorem net2_ok {n : Int} {most : Nat} (h0 : 1 ≤ most) (h1 : most ≤ 20) : ∃ (ns : List RuleT) (n' : Int), C.g__law_net_2 [.lst [.int n], .int most] = .ok (.fr (dNet ns), [some (.lst [.int n']), none]) ∧ NetOk ns most := by
  have p : 0 ≤ n % (most : Int) ∧ n % (most : Int) < most := ⟨Int.emod_nonneg _ (by omega), Int.emod_lt_of_pos _ (by omega)⟩
  have tk := take2_ok (n := n) (m := most) (by omega) (by omega)
  obtain ⟨M, hM⟩ : ∃ M : Nat, 1 + n % (most : Int) = M := ⟨(1 + n % (most : Int)).toNat, by omega⟩
  have hM1 : 1 ≤ M ∧ M ≤ most := by omega
  obtain ⟨ns, n2, e, hl, hr⟩ := comp_ex (tm := tmName 3) (t := cYes) (e := C.e__law_net_2_1) (vs := [3]) (ws := []) (fun j : Nat => D.int (j : Nat)) dRule (fun b : Int => [some (.lst [.int b]), some (.int most), some (.int M), none]) (RuleOk M) (List.range M) (n / most) (fun b j hj => by
    obtain ⟨r, b2, e, hr⟩ := rule2_ok (n := b) (m := M) (by omega) (by omega)
    refine ⟨r, b2, ?_, hr, by simp⟩
    simp only [turnC, C.e__law_net_2_1]
    simp [e])
  rw [List.length_range] at hl
  have rM : rngOk M = true := rngOk_of (by omega) (by omega)
  have zM : szOk M = true := szOk_of (by omega)
  refine ⟨ns, n2, ?_, ⟨by omega, by omega, by rw [hl]; exact hr⟩⟩
  simp only [C.g__law_net_2, C.m__law_net_2]
  simp [e_fnD, tk, hM, rM, zM, e]
theorem in_ti {x : Int} {xs : List Int} : inD (.int x) (ti xs) = .ok (.bl (decide (x ∈ xs))) := by
  have c1 : flatD (.int x) = true := rfl
  have c2 : (xs.map D.int).all flatD = true := by
    rw [List.all_map, List.all_eq_true]
    exact fun _ _ => rfl
  have e : ((xs.map D.int).any fun z => eqP z (.int x)) = decide (x ∈ xs) := by
    rw [List.any_map, Bool.eq_iff_iff, List.any_eq_true, decide_eq_true_eq]
    constructor
    · rintro ⟨y, hy, h⟩
      have : eqP (.int y) (.int x) = true := h
      rw [eqP_int, beq_iff_eq] at this
      rw [← this]; exact hy
    · intro h
      exact ⟨x, h, by show eqP (.int x) (.int x) = true; rw [eqP_int]; simp⟩
  show (match (if (flatD (.int x) && (xs.map D.int).all flatD) = true then some ((xs.map D.int).any fun z => eqP z (.int x)) else none) with | some b => R.ok (D.bl b) | none => .stk) = _
  rw [c1, c2, e]
  rfl
end H

set_option Elab.async false
set_option linter.all false
set_option maxRecDepth 100000
namespace H
open PySem PySem.Spec PyProof.Rows L2 Y
section
variable {ns : List RuleT} {o : List (List Nat)}
end
end H

set_option Elab.async false
set_option linter.all false
set_option maxRecDepth 100000
namespace H
open PySem PySem.Spec PyProof.Rows L2 Y
theorem ups_ints {m : Int} : ∀ {xs : List D}, xs.all (upB m) = true → ∃ is : List Int, xs = is.map D.int ∧ is.all (fun x => decide (0 ≤ x ∧ x < m)) = true
  | [], _ => ⟨[], rfl, rfl⟩
  | x :: xs, h => by
    rw [List.all_cons, Bool.and_eq_true] at h
    obtain ⟨is, e, h2⟩ := ups_ints h.2
    cases x with
    | int i => exact ⟨i :: is, by rw [e]; rfl, by rw [List.all_cons, h2, Bool.and_true]; exact h.1⟩
    | _ => exact absurd h.1 (by simp [upB])
theorem ups_of {m : Int} {is : List Int} : (is.map D.int).all (upB m) = is.all (fun x => decide (0 ≤ x ∧ x < m)) := by rw [List.all_map]; rfl
theorem whs_ints : ∀ {xs : List D}, xs.all whB = true → ∃ is : List Int, xs = is.map D.int
  | [], _ => ⟨[], rfl⟩
  | x :: xs, h => by
    rw [List.all_cons, Bool.and_eq_true] at h
    obtain ⟨is, e⟩ := whs_ints h.2
    cases x with
    | int i => exact ⟨i :: is, by rw [e]; rfl⟩
    | _ => exact absurd h.1 (by simp [whB])
def rgI (n : Nat) : List Int := (List.range n).map fun k : Nat => (k : Int)
theorem law_whole2_any {d : D} (h : noDit d = true) : C.g__law_whole_2 [d] = .ok (.fr (.bl (whB d))) := by
  cases d <;> simp [noDit] at h <;> simp [C.g__law_whole_2, C.m__law_whole_2, e_fnP, noDit, Y.isInt, Y.isBl, whB]
/-- a block, by the law -/
def gB : D → Bool
  | .tup ys => ys.all whB && riseB ((intsOf ys).getD []) | _ => false
end H

set_option Elab.async false
set_option linter.all false
set_option maxRecDepth 100000
namespace H
open PySem PySem.Spec PyProof.Rows L2 Y
theorem bits2_any {d : D} {m : Int} (h : Nd 1 d) : C.g__law_bits_2 [d, .int m] = .ok (.fr (.bl (bitsB m d))) := by
  cases d with
  | tup xs =>
    obtain ⟨hl, hx⟩ := h.tup
    have c := comp_map (tm := tmName 2) (t := cYes) (e := C.e__law_bits_2_1) (vs := [2]) (ws := []) (ρ := [some (.tup xs), some (.int m), none]) (fun x : D => x) (fun x => D.bl (upB 2 x)) xs (fun x hx' => by
      have hn := (hx x hx').no
      cases x with
      | int i =>
        have it := in_ti (x := i) (xs := [0, 1])
        have it : inD (.int i) (.tup [.int 0, .int 1]) = _ := it
        have e : decide (i ∈ [(0 : Int), 1]) = upB 2 (.int i) := by
          unfold upB
          rw [decide_eq_decide]
          simp only [List.mem_cons, List.not_mem_nil, or_false]
          omega
        rw [e] at it
        simp only [turnC, C.e__law_bits_2_1]
        simp [it, noDit, Y.isInt, Y.isBl]
      | dit _ _ => cases hn
      | ftu _ => cases hn
      | tab _ _ => cases hn
      | _ =>
        simp only [turnC, C.e__law_bits_2_1]
        simp [noDit, Y.isInt, Y.isBl, upB])
    rw [List.map_id'] at c
    have z : szOk xs.length = true := szOk_of (by omega)
    have e2 : (xs.map fun x => D.bl (upB 2 x)) = (xs.map (upB 2)).map D.bl := by rw [List.map_map]; rfl
    have e3 : allD [.lst (xs.map fun x => D.bl (upB 2 x))] = .ok (.bl (xs.all (upB 2))) := by rw [e2, d_all, List.all_map]; rfl
    simp only [C.g__law_bits_2, C.m__law_bits_2]
    generalize C.e__law_bits_2_1 = e1 at c ⊢
    by_cases hm : (xs.length : Int) = m <;> simp [e_fnP, noDit, Y.isTup, z, c, e3, hm, bitsB, -d_all]
  | dit _ _ => cases h.1
  | ftu _ => cases h.1
  | tab _ _ => cases h.1
  | _ => simp [C.g__law_bits_2, C.m__law_bits_2, e_fnP, noDit, Y.isTup, bitsB]
theorem bits_st {m : Nat} {d : D} (h : bitsB m d = true) : ∃ st : List Int, d = ti st ∧ IsSt m st := by
  cases d with
  | tup xs =>
    have h : (decide ((xs.length : Int) = m) && xs.all (upB 2)) = true := h
    rw [Bool.and_eq_true, decide_eq_true_eq] at h
    obtain ⟨is, e, h2⟩ := ups_ints h.2
    subst e
    rw [List.length_map] at h
    exact ⟨is, rfl, by omega, fun x hx => by simpa using List.all_eq_true.mp h2 x hx⟩
  | _ => cases h
end H

set_option Elab.async false
set_option linter.all false
set_option maxRecDepth 100000
namespace H
open PySem PySem.Spec PyProof.Rows L2 Y
theorem in_li {x : Int} {xs : List Int} : inD (.int x) (li xs) = .ok (.bl (decide (x ∈ xs))) := by
  have c1 : dOk (.int x) = true := dOk_fit (n := 1) fit_int
  have c2 : dOk (.lst (xs.map D.int)) = true := dOk_fit (n := 1) fit_lstI
  have e : ((xs.map D.int).any fun z => eqP z (.int x)) = decide (x ∈ xs) := by
    rw [List.any_map, Bool.eq_iff_iff, List.any_eq_true, decide_eq_true_eq]
    constructor
    · rintro ⟨y, hy, h⟩
      have h : eqP (.int y) (.int x) = true := h
      rw [eqP_int, beq_iff_eq] at h
      exact h ▸ hy
    · exact fun h => ⟨x, h, by show eqP (.int x) (.int x) = true; rw [eqP_int]; simp⟩
  show (match (if (dOk (.int x) && dOk (.lst (xs.map D.int))) = true then some ((xs.map D.int).any fun z => eqP z (.int x)) else none) with | some b => R.ok (D.bl b) | none => .stk) = _
  rw [c1, c2, e]
  rfl
end H

set_option Elab.async false
set_option linter.all false
set_option maxRecDepth 100000
namespace H
open PySem PySem.Spec PyProof.Rows L2 Y
def sightB (m : Int) : D → Bool
  | .tup [a, b, c] => bitsB m a && (upB m b && upB 2 c)
  | _ => false
def seenB (m : Int) : D → Bool
  | .lst xs => decide (xs.length ≤ 200) && xs.all (sightB m)
  | _ => false
structure Sn (d : D) : Prop where
  no : noDit d = true
  ar : ∀ ns, d ≠ .arg ns
  lst : ∀ xs, d = .lst xs → xs.length ≤ 1000 ∧ ∀ x ∈ xs, Nd 2 x
theorem len3 {α : Type} {xs : List α} (h : (xs.length : Int) = 3) : ∃ a b c, xs = [a, b, c] := by
  match xs, h with
  | [a, b, c], _ => exact ⟨a, b, c, rfl⟩
  | [], h => simp at h
  | [_], h => simp at h
  | [_, _], h => simp at h
  | _ :: _ :: _ :: _ :: _, h => simp at h; omega
theorem sight_len {m : Int} {xs : List D} (h : ¬ (xs.length : Int) = 3) : sightB m (.tup xs) = false := by
  match xs, h with
  | [a, b, c], h => exact absurd rfl h
  | [], _ => rfl
  | [_], _ => rfl
  | [_, _], _ => rfl
  | _ :: _ :: _ :: _ :: _, _ => rfl
theorem is_sight_any {d : D} {m : Int} (h : Nd 2 d) : C.g_is_sight [.int m, d] = .ok (.fr (.bl (sightB m d))) := by
  cases d with
  | tup xs =>
    obtain ⟨_, hx⟩ := h.tup
    by_cases c3 : (xs.length : Int) = 3
    · obtain ⟨a, b, c, rfl⟩ := len3 c3
      have h1 := are_bits_any (m := m) (hx a (by simp))
      have h2 := upto_any (m := m) (hx b (by simp)).no
      have h3 := upto_any (m := 2) (hx c (by simp)).no
      simp only [C.g_is_sight, C.m_is_sight]
      cases b1 : bitsB m a <;> cases b2 : upB m b <;> cases b3 : upB 2 c <;> rw [b1] at h1 <;> rw [b2] at h2 <;> rw [b3] at h3 <;> simp [e_fnP, noDit, Y.isTup, h1, h2, h3, sightB, b1, b2, b3, szOk_of]
    · rw [sight_len c3]
      simp only [C.g_is_sight, C.m_is_sight]
      simp [e_fnP, noDit, Y.isTup, c3]
  | dit _ _ => cases h.1
  | ftu _ => cases h.1
  | tab _ _ => cases h.1
  | _ => simp [C.g_is_sight, C.m_is_sight, e_fnP, noDit, Y.isTup, sightB]
theorem need_seen_any {d : D} {m : Int} (h : Sn d) : C.g_need_seen [.int m, d] = if seenB m d = true then .ok (.fr .non) else .er "NoSeen" [] := by
  cases d with
  | lst xs =>
    obtain ⟨hl, hx⟩ := h.lst xs rfl
    have c := comp_map (tm := tmName 2) (t := cYes) (e := C.e_need_seen_1) (vs := [2]) (ws := []) (ρ := [some (.int m), some (.lst xs), none]) (fun x : D => x) (fun x => D.bl (sightB m x)) xs (fun x hx' => by
      have := is_sight_any (m := m) (hx x hx')
      simp only [turnC, C.e_need_seen_1]
      simp [this])
    rw [List.map_id'] at c
    have z : szOk xs.length = true := szOk_of (by omega)
    have e2 : (xs.map fun x => D.bl (sightB m x)) = (xs.map (sightB m)).map D.bl := by rw [List.map_map]; rfl
    rw [e2] at c
    have al := d_all (xs := xs.map (sightB m))
    have af : (xs.map (sightB m)).all id = xs.all (sightB m) := by rw [List.all_map]; rfl
    rw [af] at al
    have zq : szOk ((xs.map (sightB m)).map D.bl).length = true := szOk_of (by rw [List.length_map, List.length_map]; omega)
    generalize (xs.map (sightB m)).map D.bl = Q at c al zq
    simp only [C.g_need_seen, C.m_need_seen]
    generalize C.e_need_seen_1 = E1 at *
    by_cases h200 : xs.length ≤ 200
    · have n2 : ¬ (200 : Int) < (xs.length : Nat) := by omega
      cases ha : xs.all (sightB m) <;> rw [ha] at al <;> simp [e_fnP, noDit, Y.isLst, z, zq, c, al, n2, h200, seenB, ha, gtD, -d_all]
    · have n2 : (200 : Int) < (xs.length : Nat) := by omega
      simp [e_fnP, noDit, Y.isLst, z, zq, c, al, n2, h200, seenB, gtD, -d_all]
  | arg ns => exact absurd rfl (h.ar ns)
  | dit _ _ => cases h.no
  | ftu _ => cases h.no
  | tab _ _ => cases h.no
  | _ => simp [C.g_need_seen, C.m_need_seen, e_fnP, noDit, Y.isLst, seenB]
theorem seen_turn {m : Int} {T x : D} (nx : Nd 2 x) :
    (sightB m x = true → turnF (tmName 2) C.b__law_is_seen_1 [2] x [some (.int m), some T, none] = .ok (.nx, [some (.int m), some T, none])) ∧
    (sightB m x = false → ∃ ρ', turnF (tmName 2) C.b__law_is_seen_1 [2] x [some (.int m), some T, none] = .ok (.rt (.fr (.bl false)), ρ')) := by
  cases x with
  | tup xs =>
    obtain ⟨_, hx⟩ := nx.tup
    by_cases c3 : (xs.length : Int) = 3
    · obtain ⟨a, b, c, rfl⟩ := len3 c3
      have h1 := bits2_any (m := m) (hx a (by simp))
      have nb := (hx b (by simp)).no
      have h2 := law_whole2_any nb
      have hc : Nd 1 (.tup [c]) := nd_tup (by simp) fun x hx' => by
        obtain rfl := List.mem_singleton.mp hx'
        exact (hx x (by simp)).down
      have h3 := bits2_any (m := 1) hc
      have e3 : bitsB 1 (.tup [c]) = upB 2 c := by simp [bitsB]
      rw [e3] at h3
      have ct : Y.cutD [a, b, c] (some 2) none = [c] := by
        have := cut_from (ds := [a, b, c]) (k := 2)
        exact this
      have a0 : atI [a, b, c] 0 = some a := atI_of (j := 0) rfl rfl
      have a1 : atI [a, b, c] 1 = some b := atI_of (j := 1) rfl rfl
      refine ⟨fun h => ?_, fun h => ?_⟩
      · have h : (bitsB m a && (upB m b && upB 2 c)) = true := h
        simp only [Bool.and_eq_true] at h
        obtain ⟨b1, b2, b3⟩ := h
        rw [b1] at h1
        rw [b3] at h3
        cases b with
        | int i =>
          have b2 : 0 ≤ i ∧ i < m := by simpa [upB] using b2
          have w : whB (.int i) = true := rfl
          rw [w] at h2
          simp only [turnF, C.b__law_is_seen_1]
          simp [noDit, Y.isTup, a0, a1, ct, h1, h2, h3, b2.1, b2.2, sliceD, szOk_of, leD, ltD]
        | _ => cases b2
      · have h : (bitsB m a && (upB m b && upB 2 c)) = false := h
        simp only [turnF, C.b__law_is_seen_1]
        cases b1 : bitsB m a with
        | false =>
          rw [b1] at h1
          simp [noDit, Y.isTup, a0, a1, ct, h1, sliceD, szOk_of]
        | true =>
          rw [b1] at h1 h
          cases b3 : upB 2 c with
          | false =>
            rw [b3] at h3
            simp [noDit, Y.isTup, a0, a1, ct, h1, h3, sliceD, szOk_of]
          | true =>
            rw [b3] at h3 h
            simp only [Bool.true_and, Bool.and_true] at h
            cases b with
            | int i =>
              have w : whB (.int i) = true := rfl
              rw [w] at h2
              have h : ¬ (0 ≤ i ∧ i < m) := by simpa [upB] using h
              by_cases c0 : 0 ≤ i
              · have c1 : ¬ i < m := fun z => h ⟨c0, z⟩
                simp [noDit, Y.isTup, a0, a1, ct, h1, h2, h3, c0, c1, sliceD, szOk_of, leD, ltD]
              · simp [noDit, Y.isTup, a0, a1, ct, h1, h2, h3, c0, sliceD, szOk_of, leD, ltD]
            | dit _ _ => cases nb
            | ftu _ => cases nb
            | tab _ _ => cases nb
            | _ =>
              have h2 : C.g__law_whole_2 _ = R.ok (.fr (.bl false)) := h2
              simp [noDit, Y.isTup, a0, a1, ct, h1, h2, h3, sliceD, szOk_of]
    · rw [sight_len c3]
      refine ⟨fun z => Bool.noConfusion z, fun _ => ?_⟩
      simp only [turnF, C.b__law_is_seen_1]
      simp [noDit, Y.isTup, c3]
  | dit _ _ => cases nx.1
  | ftu _ => cases nx.1
  | tab _ _ => cases nx.1
  | _ =>
    refine ⟨fun z => Bool.noConfusion z, fun _ => ?_⟩
    simp only [turnF, C.b__law_is_seen_1]
    simp [noDit, Y.isTup]
theorem law_is_seen_any {d : D} {m : Int} (h : Sn d) : C.g__law_is_seen [.int m, d] = .ok (.fr (.bl (seenB m d))) := by
  cases d with
  | lst xs =>
    obtain ⟨hl, hx⟩ := h.lst xs rfl
    have z : szOk xs.length = true := szOk_of (by omega)
    simp only [C.g__law_is_seen, C.m__law_is_seen]
    by_cases h200 : xs.length ≤ 200
    · have n2 : ¬ (200 : Int) < (xs.length : Nat) := by omega
      obtain ⟨ρ', lp⟩ := for_all (tm := tmName 2) (body := C.b__law_is_seen_1) (vs := [2]) (ws := []) (fun x : D => x) (sightB m) (.fr (.bl false)) xs [some (.int m), some (.lst xs), none] (fun x hx' h => (seen_turn (hx x hx')).1 h) fun x hx' h => (seen_turn (hx x hx')).2 h
      rw [List.map_id'] at lp
      generalize C.b__law_is_seen_1 = B1 at *
      cases ha : xs.all (sightB m) with
      | true =>
        rw [ha, if_pos rfl] at lp
        simp [e_fnP, noDit, Y.isLst, z, lp, n2, h200, seenB, ha, gtD]
      | false =>
        rw [ha, if_neg Bool.false_ne_true] at lp
        simp [e_fnP, noDit, Y.isLst, z, lp, n2, h200, seenB, ha, gtD]
    · have n2 : (200 : Int) < (xs.length : Nat) := by omega
      simp [e_fnP, noDit, Y.isLst, z, n2, h200, seenB, gtD]
  | arg ns => exact absurd rfl (h.ar ns)
  | dit _ _ => cases h.no
  | ftu _ => cases h.no
  | tab _ _ => cases h.no
  | _ => simp [C.g__law_is_seen, C.m__law_is_seen, e_fnP, noDit, Y.isLst, seenB]
end H

set_option Elab.async false
set_option linter.all false
set_option maxRecDepth 100000
namespace H
open PySem PySem.Spec PyProof.Rows L2 Y
abbrev SeT := List Int × Nat × Int
def dS (s : SeT) : D := .tup [ti s.1, .int s.2.1, .int s.2.2]
structure OkS (m : Nat) (s : SeT) : Prop where
  st : IsSt m s.1
  k : s.2.1 < m
  b : 0 ≤ s.2.2 ∧ s.2.2 < 2
theorem fit_dS {n : Nat} {s : SeT} : Fit (n + 2) (dS s) := fun d hd => by
  simp only [List.mem_cons, List.not_mem_nil, or_false] at hd
  rcases hd with rfl | rfl | rfl
  · exact fit_ti
  · exact fit_int
  · exact fit_int
theorem fit_lS {n : Nat} {ss : List SeT} : Fit (n + 3) (.lst (ss.map dS)) := fun d hd => by
  obtain ⟨s, _, rfl⟩ := List.mem_map.mp hd
  exact fit_dS
theorem sight_of {m : Nat} {d : D} (h : sightB m d = true) : ∃ s, d = dS s ∧ OkS m s := by
  cases d with
  | tup xs =>
    by_cases c3 : (xs.length : Int) = 3
    · obtain ⟨a, b, c, rfl⟩ := len3 c3
      have h : (bitsB m a && (upB m b && upB 2 c)) = true := h
      simp only [Bool.and_eq_true] at h
      obtain ⟨h1, h2, h3⟩ := h
      obtain ⟨st, rfl, hs⟩ := bits_st h1
      cases b with
      | int i =>
        cases c with
        | int j =>
          have h2 : 0 ≤ i ∧ i < m := by simpa [upB] using h2
          have h3 : 0 ≤ j ∧ j < 2 := by simpa [upB] using h3
          refine ⟨(st, i.toNat, j), ?_, hs, by show i.toNat < m; omega, h3⟩
          unfold dS
          have : ((i.toNat : Nat) : Int) = i := by omega
          rw [this]
        | _ => cases h3
      | _ => cases h2
    · rw [sight_len c3] at h; cases h
  | _ => cases h
theorem sights_of {m : Nat} : ∀ {xs : List D}, xs.all (sightB m) = true → ∃ ss : List SeT, xs = ss.map dS ∧ ∀ s ∈ ss, OkS m s
  | [], _ => ⟨[], rfl, by simp⟩
  | x :: xs, h => by
    rw [List.all_cons, Bool.and_eq_true] at h
    obtain ⟨s, rfl, h1⟩ := sight_of h.1
    obtain ⟨ss, rfl, h2⟩ := sights_of h.2
    exact ⟨s :: ss, rfl, fun t ht => by
      rcases List.mem_cons.mp ht with rfl | ht
      · exact h1
      · exact h2 t ht⟩
theorem seen_of {m : Nat} {d : D} (h : seenB m d = true) : ∃ ss : List SeT, d = .lst (ss.map dS) ∧ (∀ s ∈ ss, OkS m s) ∧ ss.length ≤ 200 := by
  cases d with
  | lst xs =>
    have h : (decide (xs.length ≤ 200) && xs.all (sightB m)) = true := h
    rw [Bool.and_eq_true, decide_eq_true_eq] at h
    obtain ⟨ss, rfl, h2⟩ := sights_of h.2
    exact ⟨ss, rfl, h2, by simpa using h.1⟩
  | _ => cases h
theorem nd_dS {m : Nat} {s : SeT} (hm : m ≤ 1000) (h : OkS m s) : Nd 2 (dS s) := nd_tup (by simp) fun d hd => by
  simp only [List.mem_cons, List.not_mem_nil, or_false] at hd
  rcases hd with rfl | rfl | rfl
  · exact nd_ti (by have := h.st.len; omega)
  · exact nd_int
  · exact nd_int
theorem sn_sights {m : Nat} {ss : List SeT} (hm : m ≤ 1000) (hl : ss.length ≤ 1000) (h : ∀ s ∈ ss, OkS m s) : Sn (.lst (ss.map dS)) := by
  refine ⟨rfl, fun ns e => (by cases e), fun xs e => ?_⟩
  cases e
  refine ⟨by simpa using hl, fun x hx => ?_⟩
  obtain ⟨s, hs, rfl⟩ := List.mem_map.mp hx
  exact nd_dS hm (h s hs)
theorem sight_ok {m : Nat} {s : SeT} (h : OkS m s) : sightB m (dS s) = true := by
  show (bitsB m (ti s.1) && (upB m (.int s.2.1) && upB 2 (.int s.2.2))) = true
  have h1 : bitsB m (ti s.1) = true := by
    show (decide (((s.1.map D.int).length : Int) = m) && (s.1.map D.int).all (upB 2)) = true
    rw [List.length_map, h.st.len, decide_eq_true rfl, Bool.true_and, ups_of, List.all_eq_true]
    exact fun x hx => decide_eq_true (h.st.bit x hx)
  have h2 : upB m (.int s.2.1) = true := decide_eq_true (by have := h.k; omega)
  have h3 : upB 2 (.int s.2.2) = true := decide_eq_true h.b
  rw [h1, h2, h3]
  rfl
theorem seen_ok {m : Nat} {ss : List SeT} (hl : ss.length ≤ 200) (h : ∀ s ∈ ss, OkS m s) : seenB m (.lst (ss.map dS)) = true := by
  show (decide ((ss.map dS).length ≤ 200) && (ss.map dS).all (sightB m)) = true
  rw [List.length_map, decide_eq_true hl, Bool.true_and, List.all_map, List.all_eq_true]
  exact fun s hs => sight_ok (h s hs)
def fitB (ns : List RuleT) (s : SeT) : Bool := decide (oughtI ns s.1 s.2.1 = s.2.2)
theorem kw_seen : kindW "NoSeen" = "seen" := by decide +kernel
theorem flip_at {m a : Nat} {st : List Int} (h : IsSt m st) (ha : a < m) : ∃ v : Int, atI (st.map D.int) (a : Int) = some (.int v) ∧ Y.cutD (st.map D.int) none (some (a : Int)) ++ .int (1 - v) :: Y.cutD (st.map D.int) (some ((a : Int) + 1)) none = (st.take a ++ (1 - v) :: st.drop (a + 1)).map D.int ∧ IsSt m (st.take a ++ (1 - v) :: st.drop (a + 1)) := by
  have hl := h.len
  have hv : a < st.length := by omega
  refine ⟨st[a], atI_of (j := a) rfl (by rw [List.getElem?_map, List.getElem?_eq_getElem hv]; rfl), ?_, ?_, fun x hx => ?_⟩
  · rw [cut_to, show ((a : Int) + 1) = ((a + 1 : Nat) : Int) by omega, cut_from, List.map_append, List.map_cons, List.map_take, List.map_drop]
  · rw [List.length_append, List.length_cons, List.length_take, List.length_drop]; omega
  · rcases List.mem_append.mp hx with hx | hx
    · exact h.bit x (List.mem_of_mem_take hx)
    · rcases List.mem_cons.mp hx with rfl | hx
      · have := h.bit st[a] (List.getElem_mem hv); omega
      · exact h.bit x (List.mem_of_mem_drop hx)
theorem spoilt_ok {m : Nat} {n : Int} {ss : List SeT} (h1 : 1 ≤ m) (h2 : m ≤ 20) (hs : ∀ s ∈ ss, OkS m s) (hl : ss.length ≤ 200) : ∃ (n' : Int) (d : D), C.g__law_spoilt [.lst [.int n], .lst (ss.map dS), .int m] = .ok (.fr d, [some (.lst [.int n']), none, none]) ∧ Sn d := by
  have eq : eqD (.lst (ss.map dS)) (.lst []) = .ok (.bl ss.isEmpty) := by
    rw [eqD_of (n := 3) fit_lS (by unfold Fit; intro d h; cases h), eqP_lst, eqPs_nil]
    cases ss <;> rfl
  cases he : ss.isEmpty with
  | true =>
    rw [he] at eq
    refine ⟨n, .lst [.tup [.tup (List.replicate m (.int 0)), .int m, .int 0]], ?_, rfl, fun ns e => (by cases e), fun xs e => ?_⟩
    · have mu : mulD (.tup [.int 0]) (.int m) = .ok (.tup (List.replicate m (.int 0))) := by
        have hm : -(1048576 : Int) < (m : Int) ∧ (m : Int) ≤ 1000 := by omega
        simp [d_mulT, hm.1, hm.2, szOk_of]
      simp only [C.g__law_spoilt, C.m__law_spoilt]
      generalize ss.map dS = S at *
      simp [e_fnD, eq, mu, szOk_of]
    · cases e
      refine ⟨by simp, fun x hx => ?_⟩
      obtain rfl := List.mem_singleton.mp hx
      refine nd_tup (by simp) fun d hd => ?_
      simp only [List.mem_cons, List.not_mem_nil, or_false] at hd
      rcases hd with rfl | rfl | rfl
      · refine nd_tup (by rw [List.length_replicate]; omega) fun d hd => ?_
        rw [(List.mem_replicate.mp hd).2]
        exact nd_int
      · exact nd_int
      · exact nd_int
  | false =>
    rw [he] at eq
    have lpos : 0 < ss.length := by
      cases ss with
      | nil => cases he
      | cons _ _ => simp
    have tl := take2_ok (n := n) (m := ss.length) (by omega) (by omega)
    obtain ⟨j, hj, ej⟩ : ∃ j : Nat, j < ss.length ∧ n % (ss.length : Int) = j := ⟨(n % (ss.length : Int)).toNat, by have := Int.emod_lt_of_pos n (b := ss.length) (by omega); have := Int.emod_nonneg n (b := ss.length) (by omega); omega, by have := Int.emod_nonneg n (b := ss.length) (by omega); omega⟩
    rw [ej] at tl
    generalize n / (ss.length : Int) = n1 at tl
    have okj := hs ss[j] (List.getElem_mem hj)
    have aj : atI (ss.map dS) (j : Int) = some (dS ss[j]) := atI_of (j := j) rfl (by rw [List.getElem?_map, List.getElem?_eq_getElem hj]; rfl)
    have lst' : (ss[j].1.map D.int).length = m := by rw [List.length_map, okj.st.len]
    obtain ⟨S, hS⟩ : ∃ S, ss[j].1.map D.int = S := ⟨_, rfl⟩
    have aj : atI (ss.map dS) (j : Int) = some (.tup [.tup S, .int ss[j].2.1, .int ss[j].2.2]) := by rw [aj]; unfold dS; rw [← hS]
    rw [hS] at lst'
    have iS : ∀ x ∈ S, Nd 0 x := fun x hx => by
      rw [← hS] at hx
      obtain ⟨y, _, rfl⟩ := List.mem_map.mp hx
      exact nd_int
    have nS : Nd 1 (.tup S) := nd_tup (by omega) iS
    have nS1 : Nd 1 (.tup (Y.cutD S (some 1) none)) := nd_tup (by have := cutD_len (xs := S) (a := some 1) (b := none); omega) fun x hx => iS x (cutD_mem hx)
    generalize ss[j].2.1 = k at *
    generalize ss[j].2.2 = b at *
    have tk := take2_ok (n := n1) (m := 10) (by omega) (by omega)
    obtain ⟨x, ex, hx⟩ := atI_any (i := n1 % 10) (p := Nd 2) (L := [.tup [.tup S, .int k, .int (1 - b)], .tup [.tup S, .int k, .int 2], .tup [.tup S, .int m, .int b], .tup [.tup (Y.cutD S (some 1) none), .int k, .int b], .tup [.lst S, .int k, .int b], .lst [.tup S, .int k, .int b],
      .tup [.tup S, .bl ((k : Int) != 0), .int b], .tup [.tup S, .int k, .bl (b != 0)], .tup [.tup S, .int k], .tup [.tup S, .int (-1), .int b]]) (by omega) (by simp; omega) (by
        intro x hx
        simp only [List.mem_cons, List.not_mem_nil, or_false] at hx
        rcases hx with h|h|h|h|h|h|h|h|h|h <;> subst h <;> first
          | exact nd_lst
          | (refine nd_tup (by simp) fun d hd => ?_
             simp only [List.mem_cons, List.not_mem_nil, or_false] at hd
             rcases hd with rfl | rfl | rfl <;> first | exact nS | exact nS1 | exact nd_int | exact nd_bl | exact nd_lst)
          | (refine nd_tup (by simp) fun d hd => ?_
             simp only [List.mem_cons, List.not_mem_nil, or_false] at hd
             rcases hd with rfl | rfl <;> first | exact nS | exact nd_int))
    have lS : (ss.map dS).length = ss.length := List.length_map ..
    have sS : ∀ x ∈ ss.map dS, Nd 2 x := fun x hx => by
      obtain ⟨s, h, rfl⟩ := List.mem_map.mp hx
      exact nd_dS (by omega) (hs s h)
    generalize ss.map dS = SS at *
    have k1 := cutD_len (xs := SS) (a := none) (b := some (j : Int))
    have k2 := cutD_len (xs := SS) (a := some ((j : Int) + 1)) (b := none)
    refine ⟨n1 / 10, .lst (Y.cutD SS none (some (j : Int)) ++ x :: Y.cutD SS (some ((j : Int) + 1)) none), ?_, rfl, fun ns e => (by cases e), fun xs e => ?_⟩
    · have z1 : szOk ((Y.cutD SS none (some (j : Int))).length + 1) = true := szOk_of (by omega)
      have z2 : szOk ((Y.cutD SS none (some (j : Int))).length + 1 + (Y.cutD SS (some ((j : Int) + 1)) none).length) = true := szOk_of (by omega)
      have z3 : szOk (Y.cutD SS none (some (j : Int))).length = true := szOk_of (by omega)
      have z4 : szOk (Y.cutD SS (some ((j : Int) + 1)) none).length = true := szOk_of (by omega)
      have z5 : szOk (Y.cutD S (some 1) none).length = true := szOk_of (by have := cutD_len (xs := S) (a := some 1) (b := none); omega)
      have z6 : szOk S.length = true := szOk_of (by omega)
      have bo : ∀ v : Int, boolOfD [.int v] = .ok (.bl (v != 0)) := fun _ => rfl
      simp only [C.g__law_spoilt, C.m__law_spoilt]
      simp [e_fnD, eq, lS, tl, aj, tk, ex, z1, z2, z3, z4, z5, z6, bo, sliceD, szOk_of]
    · cases e
      refine ⟨by simp; omega, fun y hy => ?_⟩
      simp only [List.mem_append, List.mem_cons] at hy
      rcases hy with h | rfl | h
      · exact sS _ (cutD_mem h)
      · exact hx
      · exact sS _ (cutD_mem h)

end H

set_option Elab.async false
set_option linter.all false
set_option maxRecDepth 100000
namespace H
open PySem PySem.Spec PyProof.Rows L2 Y
theorem for_allnx2 {tm : GM} {body : SM} {vs ws : List Nat} {F : Nat → D} {ρ : Y.Env} : ∀ (xs : List Nat), (∀ k ∈ xs, turnF tm body vs (F k) ρ = .ok (.nx, ρ)) → forL tm body vs ws (xs.map F) ρ = .ok (.nx, ρ)
  | [], _ => rfl
  | k :: xs, h => for_cons (h k (by simp)) (fun _ _ => rfl) (for_allnx2 xs fun j hj => h j (by simp [hj]))
/-- no two of them clash -/
def NoCl (ss : List SeT) : Prop := ∀ s ∈ ss, ∀ t ∈ ss, s.1 = t.1 → s.2.1 = t.2.1 → s.2.2 = t.2.2
theorem at_ss {ss : List SeT} {k : Nat} (h : k < ss.length) : atI (ss.map dS) (k : Int) = some (dS ss[k]) := by
  rw [atI_map, atI_nat' h]; rfl
theorem no_clash_ok {m : Nat} {ss : List SeT} (hm : m ≤ 20) (hl : ss.length ≤ 200) (hs : ∀ s ∈ ss, OkS m s) (nc : NoCl ss) : C.g_need_no_clash [.int m, .lst (ss.map dS)] = .ok (.fr .non) := by
  have sn := sn_sights (m := m) (ss := ss) (by omega) (by omega) hs
  have ns := need_seen_any (m := (m : Int)) sn
  rw [seen_ok hl hs, if_pos rfl] at ns
  have inner : ∀ i, i < ss.length → forL (tmName 3) C.b_first_clash_1 [3] [] ((List.range (((ss.length : Int) - ((i : Int) + 1))).toNat).map fun k => D.int ((i : Int) + 1 + (k : Nat))) [some (.int m), some (.lst (ss.map dS)), some (.int i), none] = .ok (.nx, [some (.int m), some (.lst (ss.map dS)), some (.int i), none]) := fun i hi => by
    obtain ⟨ρ', h1⟩ := for_all (tm := tmName 3) (body := C.b_first_clash_1) (vs := [3]) (ws := []) (fun k : Nat => D.int ((i : Int) + 1 + (k : Nat))) (fun _ => true) (.fr (.bl false)) (List.range (((ss.length : Int) - ((i : Int) + 1))).toNat) [some (.int m), some (.lst (ss.map dS)), some (.int i), none] (fun k hk _ => by
      have hk := List.mem_range.mp hk
      obtain ⟨j, hj⟩ : ∃ j : Nat, (i : Int) + 1 + (k : Nat) = j := ⟨i + 1 + k, by omega⟩
      have jl : j < ss.length := by omega
      have a1 := at_ss hi
      have a2 := at_ss jl
      have cl := nc _ (List.getElem_mem hi) _ (List.getElem_mem jl)
      generalize ss[i] = s at *
      generalize ss[j] = t at *
      obtain ⟨sa, sk, sb⟩ := s
      obtain ⟨ta, tk, tb⟩ := t
      dsimp only at cl
      have s1 : sliceD (dS (sa, sk, sb)) none (some 2) = .ok (.tup [ti sa, .int sk]) := by
        have := cut_hi (ds := [ti sa, .int (sk : Int), .int sb]) (k := 2)
        show (if szOk (Y.cutD [ti sa, .int (sk : Int), .int sb] none (some 2)).length = true then Y.R.ok (D.tup (Y.cutD [ti sa, .int (sk : Int), .int sb] none (some 2))) else .stk) = _
        rw [show Y.cutD [ti sa, .int (sk : Int), .int sb] none (some 2) = [ti sa, .int sk] from this]
        rfl
      have s2 : sliceD (dS (ta, tk, tb)) none (some 2) = .ok (.tup [ti ta, .int tk]) := by
        have := cut_hi (ds := [ti ta, .int (tk : Int), .int tb]) (k := 2)
        show (if szOk (Y.cutD [ti ta, .int (tk : Int), .int tb] none (some 2)).length = true then Y.R.ok (D.tup (Y.cutD [ti ta, .int (tk : Int), .int tb] none (some 2))) else .stk) = _
        rw [show Y.cutD [ti ta, .int (tk : Int), .int tb] none (some 2) = [ti ta, .int tk] from this]
        rfl
      have ft : ∀ (x : List Int) (y : Int), Fit 2 (.tup [ti x, .int y]) := fun x y d hd => by
        simp only [List.mem_cons, List.not_mem_nil, or_false] at hd
        rcases hd with rfl | rfl
        · exact fit_tupI
        · exact fit_int
      have eq : eqD (.tup [ti sa, .int sk]) (.tup [ti ta, .int tk]) = .ok (.bl (decide (sa = ta) && decide (sk = tk))) := by
        rw [eqD_of (ft _ _) (ft _ _), eqP_tup]
        refine congrArg (fun q => Y.R.ok (D.bl q)) ?_
        show (eqP (ti sa) (ti ta) && (eqP (.int sk) (.int tk) && true)) = _
        rw [eqP_tup, eqPs_ints, eqP_int, Bool.and_true]
        congr 1
        rw [Bool.eq_iff_iff, beq_iff_eq, decide_eq_true_eq]
        exact Int.ofNat_inj
      have i1 : ixD (dS (sa, sk, sb)) (.int 2) = .ok (.int sb) := rfl
      have i2 : ixD (dS (ta, tk, tb)) (.int 2) = .ok (.int tb) := rfl
      have nb : neD (.int sb) (.int tb) = .ok (.bl (!decide (sb = tb))) := neD_int
      rw [hj]
      simp only [turnF, C.b_first_clash_1]
      generalize dS (sa, sk, sb) = DS1 at *
      generalize dS (ta, tk, tb) = DS2 at *
      generalize ss.map dS = SD at *
      generalize D.tup [ti sa, .int sk] = P1 at *
      generalize D.tup [ti ta, .int tk] = P2 at *
      have x1 : ixD (.lst SD) (.int i) = .ok DS1 := by
        show (match atI SD (i : Int) with | some d => Y.R.ok d | none => Y.R.stk) = _
        rw [a1]
      have x2 : ixD (.lst SD) (.int j) = .ok DS2 := by
        show (match atI SD (j : Int) with | some d => Y.R.ok d | none => Y.R.stk) = _
        rw [a2]
      by_cases c : sa = ta ∧ sk = tk
      · have e := cl c.1 c.2
        rw [decide_eq_true c.1, decide_eq_true c.2] at eq
        rw [decide_eq_true e] at nb
        have eq : eqD P1 P2 = .ok (.bl true) := eq
        have nb : neD (.int sb) (.int tb) = .ok (.bl false) := nb
        simp [x1, x2, s1, s2, eq, i1, i2, nb, -neD_int]
      · have : (decide (sa = ta) && decide (sk = tk)) = false := by
          rw [Bool.and_eq_false_iff, decide_eq_false_iff_not, decide_eq_false_iff_not]
          by_cases q : sa = ta
          · exact .inr fun z => c ⟨q, z⟩
          · exact .inl q
        rw [this] at eq
        simp [x1, x2, s1, s2, eq]) (fun _ _ z => by cases z)
    exact h1.trans (if_pos (by rw [List.all_eq_true]; intro _ _; rfl))
  have lp := for_allnx2 (tm := tmName 2) (body := C.b_first_clash_2) (vs := [2, 3]) (ws := []) (F := fun k : Nat => D.int (k : Nat)) (ρ := [some (.int m), some (.lst (ss.map dS)), none, none]) (List.range ss.length) fun i hi => by
    have hi := List.mem_range.mp hi
    have inn := inner i hi
    have r2 : rng2D [.int ((i : Int) + 1), .int (ss.length : Nat)] = .ok ((List.range (((ss.length : Int) - ((i : Int) + 1))).toNat).map fun k => D.int ((i : Int) + 1 + (k : Nat))) := by
      rw [d_rng2, if_pos]
      rw [rngOk_of (by omega) (by omega), rngOk_of (by omega) (by omega)]; rfl
    have z : szOk ((List.range (((ss.length : Int) - ((i : Int) + 1))).toNat).map fun k => D.int ((i : Int) + 1 + (k : Nat))).length = true := szOk_of (by rw [List.length_map, List.length_range]; omega)
    have ln : lenD [.lst (ss.map dS)] = .ok (.int ss.length) := by rw [d_lenL, List.length_map]
    simp only [turnF, C.b_first_clash_2]
    generalize C.b_first_clash_1 = B at *
    generalize ((List.range (((ss.length : Int) - ((i : Int) + 1))).toNat).map fun k => D.int ((i : Int) + 1 + (k : Nat))) = RR at *
    generalize ss.map dS = SD at *
    simp [ln, r2, z, inn, -d_rng2, -d_lenL]
  have ln : lenD [.lst (ss.map dS)] = .ok (.int ss.length) := by rw [d_lenL, List.length_map]
  have rk : rngOk (ss.length : Nat) = true := rngOk_of (by omega) (by omega)
  have zk : szOk ss.length = true := szOk_of (by omega)
  have fc : C.g_first_clash [.int m, .lst (ss.map dS)] = .ok (.fr .non) := by
    simp only [C.g_first_clash, C.m_first_clash]
    generalize C.b_first_clash_2 = B at *
    generalize ss.map dS = SD at *
    simp [e_fnP, ns, ln, rk, zk, lp, -d_lenL]
  simp only [C.g_need_no_clash, C.m_need_no_clash]
  generalize ss.map dS = SD at *
  simp [e_fnP, fc, Y.isNon]
end H

set_option Elab.async false
set_option linter.all false
set_option maxRecDepth 100000
namespace H
open PySem PySem.Spec PyProof.Rows L2 Y
theorem RuleOk.up {m k : Nat} {r : RuleT} (h : RuleOk k r) (hk : k ≤ m) : RuleOk m r := ⟨h.len, let ⟨es, e, s⟩ := h.sub; ⟨es, e, s.trans (by
  obtain ⟨d, rfl⟩ : ∃ d, m = k + d := ⟨m - k, by omega⟩
  rw [List.range_add]
  exact List.sublist_append_left _ _)⟩, h.tab, h.bit⟩
end H

set_option Elab.async false
set_option linter.all false
set_option maxRecDepth 100000
namespace H
open PySem PySem.Spec PyProof.Rows L2 Y
theorem flat_len {α β : Type} {f : α → List β} {c : Nat} : ∀ {xs : List α}, (∀ x ∈ xs, (f x).length ≤ c) → (xs.flatMap f).length ≤ xs.length * c
  | [], _ => by simp
  | x :: xs, h => by
    rw [List.flatMap_cons, List.length_append, List.length_cons, Nat.succ_mul]
    have := h x (by simp)
    have := flat_len (xs := xs) fun y hy => h y (by simp [hy])
    omega
theorem flat_range {β : Type} {f : Nat → List β} {i : Nat} : (List.range (i + 1)).flatMap f = (List.range i).flatMap f ++ f i := by
  rw [List.range_succ, List.flatMap_append]; simp
theorem NetOk.lkAt {ns : List RuleT} {most k : Nat} (h : NetOk ns most) (hk : k < ns.length) : RuleOk ns.length (ns.getD k ([], [])) := by
  rw [List.getD_eq_getElem?_getD, List.getElem?_eq_getElem hk]
  exact h.rule _ (List.getElem_mem hk)
def chI (ns : List RuleT) (st : List Int) (j k : Nat) : Int := oughtI ns (withI st j 1) k - oughtI ns st k
def stepW (ns : List RuleT) (st : List Int) (j : Nat) (L : List (List Int)) (k : Nat) : List (List Int) := if chI ns st j k ≠ 0 then addS L [(j : Int), (k : Int), chI ns st j k] else L
theorem addS_nd {L : List (List Int)} {t : List Int} (h : L.Nodup) : (addS L t).Nodup := by
  unfold addS
  by_cases c : t ∈ L
  · rwa [if_pos c]
  · rw [if_neg c]
    exact List.nodup_append.mpr ⟨h, by simp, fun a ha b hb z => by
      rw [List.mem_singleton] at hb
      exact c (by rw [← hb, ← z]; exact ha)⟩
def WOk (m : Nat) (L : List (List Int)) : Prop := L.Nodup ∧ ∀ t ∈ L, ∃ j k : Nat, j < m ∧ k < m ∧ (t = [(j : Int), (k : Int), 1] ∨ t = [(j : Int), (k : Int), -1])
theorem WOk.len {m : Nat} {L : List (List Int)} (h : WOk m L) : L.length ≤ m * (m * 2) := by
  have := nodup_len (B := (List.range m).flatMap fun j => (List.range m).flatMap fun k => [[((j : Nat) : Int), ((k : Nat) : Int), 1], [(j : Int), (k : Int), -1]]) h.1 fun t ht => by
    obtain ⟨j, k, hj, hk, e⟩ := h.2 t ht
    exact List.mem_flatMap.mpr ⟨j, List.mem_range.mpr hj, List.mem_flatMap.mpr ⟨k, List.mem_range.mpr hk, by simpa using e⟩⟩
  refine Nat.le_trans this ?_
  have a := flat_len (xs := List.range m) (f := fun j => (List.range m).flatMap fun k => [[((j : Nat) : Int), ((k : Nat) : Int), 1], [(j : Int), (k : Int), -1]]) (c := m * 2) fun j _ => by
    have := flat_len (xs := List.range m) (f := fun k => [[((j : Nat) : Int), ((k : Nat) : Int), 1], [(j : Int), (k : Int), -1]]) (c := 2) fun k _ => by simp
    rwa [List.length_range] at this
  rwa [List.length_range] at a
theorem WOk.step {ns : List RuleT} {m : Nat} {st : List Int} {j k : Nat} {L : List (List Int)} (h : WOk m L) (hj : j < m) (hk : k < m) (b : ∀ st, oughtI ns st k = 0 ∨ oughtI ns st k = 1) : WOk m (stepW ns st j L k) := by
  unfold stepW
  by_cases c : chI ns st j k ≠ 0
  · rw [if_pos c]
    refine ⟨addS_nd h.1, fun t ht => ?_⟩
    rcases addS_mem.mp ht with q | q
    · exact h.2 t q
    · refine ⟨j, k, hj, hk, ?_⟩
      have b1 := b (withI st j 1)
      have b2 := b st
      have : chI ns st j k = 1 ∨ chI ns st j k = -1 := by unfold chI at c ⊢; omega
      rcases this with z | z <;> rw [z] at q
      · exact .inl q
      · exact .inr q
  · rw [if_neg c]; exact h
theorem NetOk.bit {ns : List RuleT} {most k : Nat} (h : NetOk ns most) (hk : k < ns.length) (st : List Int) : oughtI ns st k = 0 ∨ oughtI ns st k = 1 := by
  have := getD_bit (h.lkAt hk).bit (placeI ((ns.getD k ([], [])).1.map fun e => st.getD e.toNat 0)).toNat
  have e : oughtI ns st k = (ns.getD k ([], [])).2.getD (placeI ((ns.getD k ([], [])).1.map fun e => st.getD e.toNat 0)).toNat 0 := rfl
  omega
end H

set_option Elab.async false
set_option linter.all false
set_option maxRecDepth 100000
namespace H
open PySem PySem.Spec PyProof.Rows L2 Y
/-- pairs of switches -/
def PrOk (m : Nat) (L : List (List Int)) : Prop := L.Nodup ∧ ∀ p ∈ L, ∃ j k : Nat, j < m ∧ k < m ∧ p = [(j : Int), (k : Int)]
theorem PrOk.len {m : Nat} {L : List (List Int)} (h : PrOk m L) : L.length ≤ m * m := by
  have sub : L ⊆ (List.range m).flatMap fun j : Nat => (List.range m).map fun k : Nat => [(j : Int), (k : Int)] := fun p hp => by
    obtain ⟨j, k, hj, hk, rfl⟩ := h.2 p hp
    exact List.mem_flatMap.mpr ⟨j, List.mem_range.mpr hj, List.mem_map.mpr ⟨k, List.mem_range.mpr hk, rfl⟩⟩
  have := nodup_len h.1 fun p hp => sub hp
  have l : ((List.range m).flatMap fun j : Nat => (List.range m).map fun k : Nat => [(j : Int), (k : Int)]).length ≤ (List.range m).length * m := flat_len fun j _ => by simp
  rw [List.length_range] at l
  omega
end H

set_option Elab.async false
set_option linter.all false
set_option maxRecDepth 100000
namespace H
open PySem PySem.Spec PyProof.Rows L2 Y
def tk (t : List Int) : List Key × Int := ([.inl (t.getD 0 0), .inl (t.getD 1 0)], t.getD 2 0)
end H

set_option Elab.async false
set_option linter.all false
set_option maxRecDepth 100000
namespace H
open PySem PySem.Spec PyProof.Rows L2 Y
end H

set_option Elab.async false
set_option linter.all false
set_option maxRecDepth 100000
namespace H
open PySem PySem.Spec PyProof.Rows L2 Y
end H

set_option Elab.async false
set_option linter.all false
set_option maxRecDepth 100000
namespace H
open PySem PySem.Spec PyProof.Rows L2 Y
structure Th (d : D) : Prop where
  no : noDit d = true
  tup : ∀ xs, d = .tup xs → xs.length ≤ 60 ∧ Fit 8 d ∧ ∀ x ∈ xs, noDit x = true
end H

set_option Elab.async false
set_option linter.all false
set_option maxRecDepth 100000
namespace H
open PySem PySem.Spec PyProof.Rows L2 Y
end H

set_option Elab.async false
set_option linter.all false
set_option maxRecDepth 100000
namespace H
open PySem PySem.Spec PyProof.Rows L2 Y
end H

set_option Elab.async false
set_option linter.all false
set_option maxRecDepth 100000
namespace H
open PySem PySem.Spec PyProof.Rows L2 Y
theorem in_tI {x : Int} {xs : List Int} : inD (.int x) (ti xs) = .ok (.bl (decide (x ∈ xs))) := by
  have c1 : flatD (.int x) = true := rfl
  have c2 : (xs.map D.int).all flatD = true := by rw [List.all_map]; exact List.all_eq_true.mpr fun _ _ => rfl
  have e : ((xs.map D.int).any fun z => eqP z (.int x)) = decide (x ∈ xs) := by
    rw [List.any_map, Bool.eq_iff_iff, List.any_eq_true, decide_eq_true_eq]
    constructor
    · rintro ⟨y, hy, h⟩
      have h : eqP (.int y) (.int x) = true := h
      rw [eqP_int, beq_iff_eq] at h
      exact h ▸ hy
    · exact fun h => ⟨x, h, by show eqP (.int x) (.int x) = true; rw [eqP_int]; simp⟩
  show (match (if (flatD (.int x) && (xs.map D.int).all flatD) = true then some ((xs.map D.int).any fun z => eqP z (.int x)) else none) with | some b => R.ok (D.bl b) | none => .stk) = _
  rw [c1, c2, e]
  rfl
end H

set_option Elab.async false
set_option linter.all false
set_option maxRecDepth 100000
namespace H
open PySem PySem.Spec PyProof.Rows L2 Y
end H

set_option Elab.async false
set_option linter.all false
set_option maxRecDepth 100000
namespace H
open PySem PySem.Spec PyProof.Rows L2 Y
theorem th_tup {xs : List D} (hl : xs.length ≤ 60) (h : ∀ x ∈ xs, noDit x = true ∧ Fit 7 x) : Th (.tup xs) := ⟨rfl, fun ys e => by
  cases e
  exact ⟨hl, fun x hx => (h x hx).2, fun x hx => (h x hx).1⟩⟩
end H

set_option Elab.async false
set_option linter.all false
set_option maxRecDepth 100000
namespace H
open PySem PySem.Spec PyProof.Rows L2 Y
theorem fm_nd {α β : Type} {f : α → List β} : ∀ {L : List α}, L.Nodup → (∀ x ∈ L, (f x).Nodup) → (∀ x ∈ L, ∀ y ∈ L, ∀ z, z ∈ f x → z ∈ f y → x = y) → (L.flatMap f).Nodup
  | [], _, _, _ => List.nodup_nil
  | x :: L, nd, h1, h2 => by
    obtain ⟨n1, n2⟩ := List.nodup_cons.mp nd
    rw [List.flatMap_cons]
    refine List.nodup_append.mpr ⟨h1 x (by simp), fm_nd n2 (fun y hy => h1 y (by simp [hy])) fun y hy z hz => h2 y (by simp [hy]) z (by simp [hz]), ?_⟩
    intro a ha b hb e
    subst e
    obtain ⟨y, hy, hb⟩ := List.mem_flatMap.mp hb
    have := h2 x (by simp) y (by simp [hy]) a ha hb
    exact n1 (this ▸ hy)
end H

set_option Elab.async false
set_option linter.all false
set_option maxRecDepth 100000
namespace H
open PySem PySem.Spec PyProof.Rows L2 Y
theorem rgI_len {m : Nat} : (rgI m).length = m := by unfold rgI; simp
end H

set_option Elab.async false
set_option linter.all false
set_option maxRecDepth 100000
namespace H
open PySem PySem.Spec PyProof.Rows L2 Y
theorem mem_rg {m : Nat} {x : Int} : x ∈ rgI m ↔ 0 ≤ x ∧ x < m := by
  unfold rgI
  rw [List.mem_map]
  constructor
  · rintro ⟨k, hk, rfl⟩
    have := List.mem_range.mp hk
    omega
  · rintro ⟨h1, h2⟩
    exact ⟨x.toNat, List.mem_range.mpr (by omega), by omega⟩
end H

set_option Elab.async false
set_option linter.all false
set_option maxRecDepth 100000
namespace H
open PySem PySem.Spec PyProof.Rows L2 Y
theorem lex_ints : ∀ {a b : List Int}, a.length = b.length → PyProof.Rows.lexLt itemOrd (PySem.W.keyToksAll (toPys (a.map D.int))) (PySem.W.keyToksAll (toPys (b.map D.int))) = ltL a b
  | [], [], _ => rfl
  | [], _ :: _, h => by simp at h
  | _ :: _, [], h => by simp at h
  | x :: a, y :: b, h => by
    have al : PySem.W.alike (.int x) (.int y) = true := by simp [PySem.W.alike]
    have e1 : toPys ((x :: a).map D.int) = .int x :: toPys (a.map D.int) := rfl
    have e2 : toPys ((y :: b).map D.int) = .int y :: toPys (b.map D.int) := rfl
    rw [e1, e2]
    unfold ltL
    by_cases c : x = y
    · have v : PyData.eqv (.int x) (.int y) = true := by simp [PyData.eqv, c]
      rw [PySem.W.dataLt_all_yes al v, if_pos c, lex_ints (by simpa using h)]
    · have v : PyData.eqv (.int x) (.int y) = false := by simp [PyData.eqv, c]
      rw [PySem.W.dataLt_all_no al v, if_neg c, PySem.W.dataLt_int]
theorem leB_li {a b : List Int} (h : a.length = b.length) : leB (li a) (li b) = !ltL b a := by
  show (!PySem.W.dataLt (.list (toPys (b.map D.int))) (.list (toPys (a.map D.int)))) = _
  rw [PySem.W.dataLt_list, lex_ints h.symm]
theorem sort_lis {L : List (List Int)} {n : Nat} (h : ∀ p ∈ L, p.length = n) : sortGD [.lst (L.map li)] = .ok (.lst ((sortL L).map li)) := by
  have so : sortsOk (L.map li) = true := by
    unfold sortsOk
    rw [Bool.and_eq_true]
    refine ⟨List.all_eq_true.mpr fun a ha => ?_, ?_⟩
    · obtain ⟨p, hp, rfl⟩ := List.mem_map.mp ha
      have f := fit_py (fit_li (n := 0) (xs := p))
      rw [Bool.and_eq_true, Bool.and_eq_true]
      refine ⟨⟨f.1, decide_eq_true (by have := f.2; omega)⟩, List.all_eq_true.mpr fun b hb => ?_⟩
      obtain ⟨q, hq, rfl⟩ := List.mem_map.mp hb
      show PySem.W.alike (.list (toPys (p.map D.int))) (.list (toPys (q.map D.int))) = true
      rw [PySem.W.alike]
      exact alike_ints
    · rw [Bool.or_eq_true]
      refine .inr (List.all_eq_true.mpr fun a ha => ?_)
      obtain ⟨p, hp, rfl⟩ := List.mem_map.mp ha
      rfl
  show (if sortsOk (L.map li) = true then R.ok (D.lst ((L.map li).mergeSort leB)) else .stk) = _
  rw [if_pos so]
  unfold sortL
  rw [List.map_mergeSort (r := fun a b => !ltL b a) (s := leB) (f := li) (l := L) fun a ha b hb => (leB_li (by rw [h a ha, h b hb])).symm]
def RiseI (r : List Int) : Prop := r.Pairwise (· < ·)
def pkI : Nat → List Int → List (List Int)
  | 0, _ => [[]]
  | n + 1, xs => (List.range xs.length).flatMap fun i => (pkI n (xs.drop (i + 1))).map fun r => xs.getD i 0 :: r
theorem pk_mem : ∀ {n : Nat} {xs r : List Int}, RiseI xs → (r ∈ pkI n xs ↔ RiseI r ∧ r.length = n ∧ ∀ x ∈ r, x ∈ xs)
  | 0, xs, r, _ => by
    unfold pkI
    rw [List.mem_singleton]
    constructor
    · rintro rfl; exact ⟨List.Pairwise.nil, rfl, by simp⟩
    · rintro ⟨_, h, _⟩; exact List.eq_nil_of_length_eq_zero h
  | n + 1, xs, r, hx => by
    unfold pkI
    rw [List.mem_flatMap]
    have hd : ∀ i, RiseI (xs.drop (i + 1)) := fun i => List.Pairwise.sublist (List.drop_sublist _ _) hx
    constructor
    · rintro ⟨i, hi, h⟩
      rw [List.mem_range] at hi
      obtain ⟨t, ht, rfl⟩ := List.mem_map.mp h
      obtain ⟨h1, h2, h3⟩ := (pk_mem (hd i)).mp ht
      have e : xs.getD i 0 = xs[i] := by rw [List.getD_eq_getElem?_getD, List.getElem?_eq_getElem hi]; rfl
      have lt : ∀ y ∈ xs.drop (i + 1), xs[i] < y := fun y hy => by
        obtain ⟨j, hj, rfl⟩ := List.mem_iff_getElem.mp hy
        rw [List.getElem_drop]
        exact List.pairwise_iff_getElem.mp hx i (i + 1 + j) hi (by rw [List.length_drop] at hj; omega) (by omega)
      rw [e]
      refine ⟨List.pairwise_cons.mpr ⟨fun y hy => lt y (h3 y hy), h1⟩, by simp [h2], fun y hy => ?_⟩
      rcases List.mem_cons.mp hy with rfl | hy
      · exact List.getElem_mem hi
      · exact List.mem_of_mem_drop (h3 y hy)
    · rintro ⟨h1, h2, h3⟩
      cases r with
      | nil => cases h2
      | cons a t =>
        obtain ⟨p1, p2⟩ := List.pairwise_cons.mp h1
        obtain ⟨i, hi, e⟩ := List.mem_iff_getElem.mp (h3 a (by simp))
        have e2 : xs.getD i 0 = a := by rw [List.getD_eq_getElem?_getD, List.getElem?_eq_getElem hi]; exact e
        refine ⟨i, List.mem_range.mpr hi, List.mem_map.mpr ⟨t, (pk_mem (hd i)).mpr ⟨p2, by simpa using h2, fun y hy => ?_⟩, by rw [e2]⟩⟩
        obtain ⟨j, hj, ej⟩ := List.mem_iff_getElem.mp (h3 y (by simp [hy]))
        have hlt := p1 y hy
        have : i < j := by
          rcases Nat.lt_trichotomy i j with c | c | c
          · exact c
          · subst c; rw [e] at ej; omega
          · have := List.pairwise_iff_getElem.mp hx j i hj hi c
            rw [e, ej] at this
            omega
        refine List.mem_iff_getElem.mpr ⟨j - (i + 1), by rw [List.length_drop]; omega, ?_⟩
        rw [List.getElem_drop]
        have : i + 1 + (j - (i + 1)) = j := by omega
        simp only [this]
        exact ej
theorem pw_fm {α β : Type} {R : β → β → Prop} {f : α → List β} : ∀ {L : List α}, (∀ x ∈ L, (f x).Pairwise R) → L.Pairwise (fun x y => ∀ a ∈ f x, ∀ b ∈ f y, R a b) → (L.flatMap f).Pairwise R
  | [], _, _ => List.Pairwise.nil
  | x :: L, h1, h2 => by
    obtain ⟨p1, p2⟩ := List.pairwise_cons.mp h2
    rw [List.flatMap_cons]
    refine List.pairwise_append.mpr ⟨h1 x (by simp), pw_fm (fun y hy => h1 y (by simp [hy])) p2, fun a ha b hb => ?_⟩
    obtain ⟨y, hy, hb⟩ := List.mem_flatMap.mp hb
    exact p1 y hy a ha b hb
theorem pk_pw : ∀ {n : Nat} {xs : List Int}, RiseI xs → (pkI n xs).Pairwise fun a b => ltL a b = true
  | 0, xs, _ => by unfold pkI; exact List.pairwise_singleton _ _
  | n + 1, xs, hx => by
    unfold pkI
    refine pw_fm (fun i _ => ?_) ?_
    · refine List.Pairwise.map _ (fun a b h => ?_) (pk_pw (n := n) (List.Pairwise.sublist (List.drop_sublist (i + 1) xs) hx))
      unfold ltL
      rw [if_pos rfl]
      exact h
    · refine List.pairwise_iff_getElem.mpr fun i j hi hj hij a ha b hb => ?_
      rw [List.length_range] at hi hj
      rw [List.getElem_range] at ha hb
      obtain ⟨s, _, rfl⟩ := List.mem_map.mp ha
      obtain ⟨t, _, rfl⟩ := List.mem_map.mp hb
      have lt := List.pairwise_iff_getElem.mp hx i j hi hj hij
      have e1 : xs.getD i 0 = xs[i] := by rw [List.getD_eq_getElem?_getD, List.getElem?_eq_getElem hi]; rfl
      have e2 : xs.getD j 0 = xs[j] := by rw [List.getD_eq_getElem?_getD, List.getElem?_eq_getElem hj]; rfl
      rw [e1, e2]
      unfold ltL
      rw [if_neg (by omega)]
      exact decide_eq_true lt
end H

set_option Elab.async false
set_option linter.all false
set_option maxRecDepth 100000
namespace H
open PySem PySem.Spec PyProof.Rows L2 Y
def pB (ss : List SeT) (k i j : Nat) : Bool := decide ((ss.getD i ([], 0, 0)).2.1 = k) && (decide ((ss.getD j ([], 0, 0)).2.1 = k) && !decide ((ss.getD i ([], 0, 0)).2.2 = (ss.getD j ([], 0, 0)).2.2))
def pairB (ss : List SeT) (k : Nat) : D → Bool
  | .tup [.int i, .int j] => decide (0 ≤ i ∧ i < ss.length) && decide (0 ≤ j ∧ j < ss.length) && pB ss k i.toNat j.toNat
  | _ => false
theorem pairB_two {ss : List SeT} {k : Nat} {i j : Int} : pairB ss k (.tup [.int i, .int j]) = (decide (0 ≤ i ∧ i < ss.length) && decide (0 ≤ j ∧ j < ss.length) && pB ss k i.toNat j.toNat) := rfl
theorem pairB_len {ss : List SeT} {k : Nat} {xs : List D} (h : xs.length ≠ 2) : pairB ss k (.tup xs) = false := by
  match xs, h with
  | [], _ => rfl
  | [x], _ => cases x <;> rfl
  | [_, _], h => exact absurd rfl h
  | x :: y :: _ :: _, _ => cases x <;> cases y <;> rfl
theorem pairB_wh {ss : List SeT} {k : Nat} {x y : D} (h : [x, y].all whB = false) : pairB ss k (.tup [x, y]) = false := by
  cases x <;> cases y <;> first | rfl | skip
  simp [whB] at h
theorem pairB_up {ss : List SeT} {k : Nat} {x y : D} (ha : [x, y].all (upB ss.length) = false) : pairB ss k (.tup [x, y]) = false := by
  cases x <;> cases y <;> first | rfl | skip
  rename_i i j
  rw [pairB_two]
  have e : [D.int i, D.int j].all (upB ss.length) = (decide (0 ≤ i ∧ i < ss.length) && (decide (0 ≤ j ∧ j < ss.length) && true)) := rfl
  rw [e, Bool.and_true] at ha
  rw [ha]; rfl
theorem at_pl {ss : List SeT} {i : Nat} (h : i < ss.length) : atI (ss.map dS) (i : Int) = some (dS (ss.getD i ([], 0, 0))) := by
  rw [at_ss h, List.getD_eq_getElem?_getD, List.getElem?_eq_getElem h]; rfl
section
variable {ss : List SeT} {k : Nat}
theorem tail_vals (i j : Nat) : eqD (.int ((ss.getD i ([], 0, 0)).2.1 : Nat)) (.int (k : Nat)) = .ok (.bl (decide ((ss.getD i ([], 0, 0)).2.1 = k))) := by
  rw [eqD_int]
  exact congrArg (fun q => Y.R.ok (D.bl q)) (decide_eq_decide.mpr Int.ofNat_inj)
theorem is_pair_ok {d : D} (hl : ss.length ≤ 1000) (hd : Th d) : C.g_is_pair [.lst (ss.map dS), .int k, d] = .ok (.fr (.bl (pairB ss k d))) := by
  have hno := hd.no
  have ln : lenD [.lst (ss.map dS)] = .ok (.int ss.length) := by rw [d_lenL, List.length_map]
  cases d with
  | tup xs =>
    obtain ⟨hxl, _, hx⟩ := hd.tup xs rfl
    have nl : neD (.int (xs.length : Nat)) (.int 2) = .ok (.bl (!decide (xs.length = 2))) := by
      rw [neD_int]
      exact congrArg (fun q => Y.R.ok (D.bl (!q))) (decide_eq_decide.mpr (by omega))
    have c := comp_map (tm := tmName 3) (t := cYes) (e := C.e_is_pair_1) (vs := [3]) (ws := []) (ρ := [some (.lst (ss.map dS)), some (.int k), some (.tup xs), none, none, none]) (fun x : D => x) (fun x => D.bl (upB ss.length x)) xs (fun x hx' => by
      have u := upto_any (m := ss.length) (hx x hx')
      simp only [turnC, C.e_is_pair_1]
      generalize ss.map dS = SD at *
      simp [ln, u, -d_lenL])
    rw [List.map_id'] at c
    have z : szOk xs.length = true := szOk_of (by omega)
    have e2 : (xs.map fun x => D.bl (upB ss.length x)) = (xs.map (upB ss.length)).map D.bl := by rw [List.map_map]; rfl
    have e3 : allD [.lst (xs.map fun x => D.bl (upB ss.length x))] = .ok (.bl (xs.all (upB ss.length))) := by rw [e2, d_all, List.all_map]; rfl
    simp only [C.g_is_pair, C.m_is_pair]
    by_cases cl : xs.length = 2
    · rw [decide_eq_true cl] at nl
      cases ha : xs.all (upB ss.length) with
      | false =>
        have : pairB ss k (.tup xs) = false := by
          match xs, cl, ha with
          | [x, y], _, ha =>
            exact pairB_up ha
        rw [this]
        rw [ha] at e3
        generalize (xs.map fun x => D.bl (upB ss.length x)) = Q at *
        generalize C.e_is_pair_1 = E1 at *
        generalize ss.map dS = SD at *
        generalize hL : xs.length = L at *
        simp [e_fnP, noDit, Y.isTup, hL, nl, z, c, e3, -d_all, -neD_int]
      | true =>
        rw [ha] at e3
        obtain ⟨is, e, hq⟩ := ups_ints ha
        subst e
        match is, cl, hq with
        | [i, j], _, hq =>
          have hq : (decide (0 ≤ i ∧ i < (ss.length : Int)) && (decide (0 ≤ j ∧ j < (ss.length : Int)) && true)) = true := hq
          rw [Bool.and_true, Bool.and_eq_true, decide_eq_true_eq, decide_eq_true_eq] at hq
          obtain ⟨a, rfl⟩ : ∃ a : Nat, i = a := ⟨i.toNat, by omega⟩
          obtain ⟨b, rfl⟩ : ∃ b : Nat, j = b := ⟨j.toNat, by omega⟩
          have al : a < ss.length := by omega
          have bl : b < ss.length := by omega
          have em : [(a : Int), (b : Int)].map D.int = [.int a, .int b] := rfl
          rw [em] at c e3 nl z ⊢
          rw [pairB_two]
          have pt : (decide (0 ≤ (a : Int) ∧ (a : Int) < ss.length) && decide (0 ≤ (b : Int) ∧ (b : Int) < ss.length) && pB ss k (a : Int).toNat (b : Int).toNat) = pB ss k a b := by
            rw [decide_eq_true (by omega), decide_eq_true (by omega)]; rfl
          rw [pt]
          have a1 := at_pl al
          have a2 := at_pl bl
          have t1 := tail_vals (ss := ss) (k := k) a b
          have t2 := tail_vals (ss := ss) (k := k) b a
          have t3 : neD (.int (ss.getD a ([], 0, 0)).2.2) (.int (ss.getD b ([], 0, 0)).2.2) = .ok (.bl (!decide ((ss.getD a ([], 0, 0)).2.2 = (ss.getD b ([], 0, 0)).2.2))) := neD_int
          have c2 := comp_map (tm := tmName 5) (t := cYes) (e := C.e_is_pair_2) (vs := [5]) (ws := []) (ρ := [some (.lst (ss.map dS)), some (.int k), some (.tup [.int a, .int b]), none, none, none]) (fun x : Nat => D.int (x : Nat)) (fun x => dS (ss.getD x ([], 0, 0))) [a, b] (fun x hx' => by
            have hx2 : x < ss.length := by
              simp only [List.mem_cons, List.not_mem_nil, or_false] at hx'
              rcases hx' with rfl | rfl <;> assumption
            have ax := at_pl hx2
            simp only [turnC, C.e_is_pair_2]
            generalize ss.map dS = SD at *
            generalize ss.getD x ([], 0, 0) = sx at *
            simp [ax])
          have c2 : cCompL (tmName 5) cYes C.e_is_pair_2 [5] [] [.int a, .int b] [some (.lst (ss.map dS)), some (.int k), some (.tup [.int a, .int b]), none, none, none] = .ok ([dS (ss.getD a ([], 0, 0)), dS (ss.getD b ([], 0, 0))], [some (.lst (ss.map dS)), some (.int k), some (.tup [.int a, .int b]), none, none, none]) := c2
          unfold pB
          generalize ss.getD a ([], 0, 0) = sa at *
          generalize ss.getD b ([], 0, 0) = sb at *
          obtain ⟨sa1, sa2, sa3⟩ := sa
          obtain ⟨sb1, sb2, sb3⟩ := sb
          dsimp only at t1 t2 t3 ⊢
          have i1 : ixD (dS (sa1, sa2, sa3)) (.int 1) = .ok (.int sa2) := rfl
          have i2 : ixD (dS (sb1, sb2, sb3)) (.int 1) = .ok (.int sb2) := rfl
          have i3 : ixD (dS (sa1, sa2, sa3)) (.int 2) = .ok (.int sa3) := rfl
          have i4 : ixD (dS (sb1, sb2, sb3)) (.int 2) = .ok (.int sb3) := rfl
          generalize dS (sa1, sa2, sa3) = DA at *
          generalize dS (sb1, sb2, sb3) = DB at *
          generalize ([D.int (a : Nat), D.int (b : Nat)].map fun x => D.bl (upB ss.length x)) = Q at *
          generalize C.e_is_pair_1 = E1 at *
          generalize C.e_is_pair_2 = E2 at *
          generalize ss.map dS = SD at *
          generalize decide (sa2 = k) = q1 at *
          generalize decide (sb2 = k) = q2 at *
          generalize decide (sa3 = sb3) = q3 at *
          have n22 : neD (.int 2) (.int 2) = .ok (.bl false) := by rw [neD_int]; rfl
          cases q1 <;> cases q2 <;> simp [e_fnP, noDit, Y.isTup, n22, c, e3, c2, i1, i2, i3, i4, t1, t2, t3, e_tmL, szOk_of, -d_all, -neD_int, -eqD_int]
    · rw [pairB_len cl]
      rw [decide_eq_false cl] at nl
      generalize ss.map dS = SD at *
      generalize hL : xs.length = L at *
      simp [e_fnP, noDit, Y.isTup, hL, nl, -neD_int]
  | dit _ _ => cases hno
  | ftu _ => cases hno
  | tab _ _ => cases hno
  | _ =>
    simp only [C.g_is_pair, C.m_is_pair]
    generalize ss.map dS = SD at *
    simp [e_fnP, noDit, Y.isTup, pairB]
theorem law_is_pair_ok {d : D} (hl : ss.length ≤ 1000) (hd : Th d) : C.g__law_is_pair [.lst (ss.map dS), .int k, d] = .ok (.fr (.bl (pairB ss k d))) := by
  have hno := hd.no
  have ln : lenD [.lst (ss.map dS)] = .ok (.int ss.length) := by rw [d_lenL, List.length_map]
  cases d with
  | tup xs =>
    obtain ⟨hxl, _, hx⟩ := hd.tup xs rfl
    have nl : neD (.int (xs.length : Nat)) (.int 2) = .ok (.bl (!decide (xs.length = 2))) := by
      rw [neD_int]
      exact congrArg (fun q => Y.R.ok (D.bl (!q))) (decide_eq_decide.mpr (by omega))
    have c := comp_map (tm := tmName 5) (t := cYes) (e := C.e__law_is_pair_1) (vs := [5]) (ws := []) (ρ := [some (.lst (ss.map dS)), some (.int k), some (.tup xs), none, none, none]) (fun x : D => x) (fun x => D.bl (whB x)) xs (fun x hx' => by
      have u := law_whole2_any (hx x hx')
      simp only [turnC, C.e__law_is_pair_1]
      generalize ss.map dS = SD at *
      simp [u])
    rw [List.map_id'] at c
    have z : szOk xs.length = true := szOk_of (by omega)
    have e2 : (xs.map fun x => D.bl (whB x)) = (xs.map whB).map D.bl := by rw [List.map_map]; rfl
    have e3 : allD [.lst (xs.map fun x => D.bl (whB x))] = .ok (.bl (xs.all whB)) := by rw [e2, d_all, List.all_map]; rfl
    simp only [C.g__law_is_pair, C.m__law_is_pair]
    by_cases cl : xs.length = 2
    · rw [decide_eq_true cl] at nl
      cases ha : xs.all whB with
      | false =>
        have : pairB ss k (.tup xs) = false := by
          match xs, cl, ha with
          | [x, y], _, ha => exact pairB_wh ha
        rw [this]
        rw [ha] at e3
        generalize (xs.map fun x => D.bl (whB x)) = Q at *
        generalize C.e__law_is_pair_1 = E1 at *
        generalize ss.map dS = SD at *
        generalize hL : xs.length = L at *
        simp [e_fnP, noDit, Y.isTup, hL, nl, z, c, e3, -d_all, -neD_int]
      | true =>
        rw [ha] at e3
        obtain ⟨is, e⟩ := whs_ints ha
        subst e
        match is, cl with
        | [i, j], _ =>
          have em : [(i : Int), (j : Int)].map D.int = [.int i, .int j] := rfl
          rw [em] at c e3 nl z ⊢
          rw [pairB_two]
          have mn : minSD [.tup [.int i, .int j]] = .ok (.int (min i j)) := d_minS (ms := [j]) rfl
          have mx : maxSD [.tup [.int i, .int j]] = .ok (.int (max i j)) := d_maxS (ms := [j]) rfl
          have n22 : neD (.int 2) (.int 2) = .ok (.bl false) := by rw [neD_int]; rfl
          have lt : ltD (.int (min i j)) (.int 0) = .ok (.bl (decide (min i j < 0))) := by rw [d_lt]
          have ge : geD (.int (max i j)) (.int (ss.length : Nat)) = .ok (.bl (decide (max i j ≥ (ss.length : Int)))) := by rw [d_ge]
          by_cases o1 : min i j < 0
          · have : (decide (0 ≤ i ∧ i < (ss.length : Int)) && decide (0 ≤ j ∧ j < (ss.length : Int))) = false := by
              rw [Bool.and_eq_false_iff, decide_eq_false_iff_not, decide_eq_false_iff_not]
              omega
            rw [this]
            rw [decide_eq_true o1] at lt
            generalize ([D.int i, D.int j].map fun x => D.bl (whB x)) = Q at *
            generalize C.e__law_is_pair_1 = E1 at *
            generalize ss.map dS = SD at *
            generalize min i j = mi at *
            simp [e_fnP, noDit, Y.isTup, n22, c, e3, mn, lt, szOk_of, -d_all, -neD_int, -d_lt]
          · rw [decide_eq_false o1] at lt
            by_cases o2 : max i j ≥ (ss.length : Int)
            · have : (decide (0 ≤ i ∧ i < (ss.length : Int)) && decide (0 ≤ j ∧ j < (ss.length : Int))) = false := by
                rw [Bool.and_eq_false_iff, decide_eq_false_iff_not, decide_eq_false_iff_not]
                omega
              rw [this]
              rw [decide_eq_true o2] at ge
              generalize ([D.int i, D.int j].map fun x => D.bl (whB x)) = Q at *
              generalize C.e__law_is_pair_1 = E1 at *
              generalize ss.map dS = SD at *
              generalize min i j = mi at *
              generalize max i j = ma at *
              simp [e_fnP, noDit, Y.isTup, n22, c, e3, mn, mx, lt, ge, ln, szOk_of, -d_all, -neD_int, -d_lt, -d_ge, -d_lenL]
            · rw [decide_eq_false o2] at ge
              obtain ⟨a, rfl⟩ : ∃ a : Nat, i = a := ⟨i.toNat, by omega⟩
              obtain ⟨b, rfl⟩ : ∃ b : Nat, j = b := ⟨j.toNat, by omega⟩
              have al : a < ss.length := by omega
              have bl : b < ss.length := by omega
              have pt : (decide (0 ≤ (a : Int) ∧ (a : Int) < ss.length) && decide (0 ≤ (b : Int) ∧ (b : Int) < ss.length) && pB ss k (a : Int).toNat (b : Int).toNat) = pB ss k a b := by
                rw [decide_eq_true (by omega), decide_eq_true (by omega)]; rfl
              rw [pt]
              have a1 := at_pl al
              have a2 := at_pl bl
              have t1 := tail_vals (ss := ss) (k := k) a b
              have t2 := tail_vals (ss := ss) (k := k) b a
              have t3 : neD (.int (ss.getD a ([], 0, 0)).2.2) (.int (ss.getD b ([], 0, 0)).2.2) = .ok (.bl (!decide ((ss.getD a ([], 0, 0)).2.2 = (ss.getD b ([], 0, 0)).2.2))) := neD_int
              have c2 := comp_map (tm := tmName 5) (t := cYes) (e := C.e__law_is_pair_2) (vs := [5]) (ws := []) (ρ := [some (.lst (ss.map dS)), some (.int k), some (.tup [.int a, .int b]), none, none, none]) (fun x : Nat => D.int (x : Nat)) (fun x => dS (ss.getD x ([], 0, 0))) [a, b] (fun x hx' => by
                have hx2 : x < ss.length := by
                  simp only [List.mem_cons, List.not_mem_nil, or_false] at hx'
                  rcases hx' with rfl | rfl <;> assumption
                have ax := at_pl hx2
                simp only [turnC, C.e__law_is_pair_2]
                generalize ss.map dS = SD at *
                generalize ss.getD x ([], 0, 0) = sx at *
                simp [ax])
              have c2 : cCompL (tmName 5) cYes C.e__law_is_pair_2 [5] [] [.int a, .int b] [some (.lst (ss.map dS)), some (.int k), some (.tup [.int a, .int b]), none, none, none] = .ok ([dS (ss.getD a ([], 0, 0)), dS (ss.getD b ([], 0, 0))], [some (.lst (ss.map dS)), some (.int k), some (.tup [.int a, .int b]), none, none, none]) := c2
              unfold pB
              generalize ss.getD a ([], 0, 0) = sa at *
              generalize ss.getD b ([], 0, 0) = sb at *
              obtain ⟨sa1, sa2, sa3⟩ := sa
              obtain ⟨sb1, sb2, sb3⟩ := sb
              dsimp only at t1 t2 t3 ⊢
              have i1 : ixD (dS (sa1, sa2, sa3)) (.int 1) = .ok (.int sa2) := rfl
              have i2 : ixD (dS (sb1, sb2, sb3)) (.int 1) = .ok (.int sb2) := rfl
              have i3 : ixD (dS (sa1, sa2, sa3)) (.int 2) = .ok (.int sa3) := rfl
              have i4 : ixD (dS (sb1, sb2, sb3)) (.int 2) = .ok (.int sb3) := rfl
              generalize dS (sa1, sa2, sa3) = DA at *
              generalize dS (sb1, sb2, sb3) = DB at *
              generalize ([D.int (a : Nat), D.int (b : Nat)].map fun x => D.bl (whB x)) = Q at *
              generalize C.e__law_is_pair_1 = E1 at *
              generalize C.e__law_is_pair_2 = E2 at *
              generalize ss.map dS = SD at *
              generalize decide (sa2 = k) = q1 at *
              generalize decide (sb2 = k) = q2 at *
              generalize decide (sa3 = sb3) = q3 at *
              generalize min (a : Int) (b : Int) = mi at *
              generalize max (a : Int) (b : Int) = ma at *
              cases q1 <;> cases q2 <;> simp [e_fnP, noDit, Y.isTup, n22, c, e3, c2, mn, mx, lt, ge, ln, i1, i2, i3, i4, t1, t2, t3, e_tmL, szOk_of, -d_all, -neD_int, -eqD_int, -d_lt, -d_ge, -d_lenL]
    · rw [pairB_len cl]
      rw [decide_eq_false cl] at nl
      generalize ss.map dS = SD at *
      generalize hL : xs.length = L at *
      simp [e_fnP, noDit, Y.isTup, hL, nl, -neD_int]
  | dit _ _ => cases hno
  | ftu _ => cases hno
  | tab _ _ => cases hno
  | _ =>
    simp only [C.g__law_is_pair, C.m__law_is_pair]
    generalize ss.map dS = SD at *
    simp [e_fnP, noDit, Y.isTup, pairB]
end
end H

set_option Elab.async false
set_option linter.all false
set_option maxRecDepth 100000
namespace H
open PySem PySem.Spec PyProof.Rows L2 Y
end H

set_option Elab.async false
set_option linter.all false
set_option maxRecDepth 100000
namespace H
open PySem PySem.Spec PyProof.Rows L2 Y
theorem pk_size {n : Nat} : ∀ {xs r : List Int}, r ∈ pkI n xs → r.length = n := by
  induction n with
  | zero => intro xs r h; unfold pkI at h; rw [List.mem_singleton.mp h]; rfl
  | succ n ih =>
    intro xs r h
    unfold pkI at h
    obtain ⟨i, _, h⟩ := List.mem_flatMap.mp h
    obtain ⟨t, ht, rfl⟩ := List.mem_map.mp h
    rw [List.length_cons, ih ht]
end H

set_option Elab.async false
set_option linter.all false
set_option maxRecDepth 100000
namespace H
open PySem PySem.Spec PyProof.Rows L2 Y
theorem rg_rise {m : Nat} : RiseI (rgI m) := by
  unfold RiseI rgI
  refine List.Pairwise.map _ (fun a b h => ?_) List.pairwise_lt_range
  omega
def sbR (n m : Nat) : List (List Int) := (List.range m).flatMap fun l => (pkI n (rgI l)).map fun r => r ++ [(l : Int)]
theorem ltL_irr : ∀ {a : List Int}, ltL a a = false
  | [] => rfl
  | x :: a => by unfold ltL; rw [if_pos rfl]; exact ltL_irr
theorem pk_nd {n : Nat} {xs : List Int} (h : RiseI xs) : (pkI n xs).Nodup := (pk_pw h).imp fun hab z => by
  rw [z, ltL_irr] at hab
  cases hab
theorem sb_mem {n m : Nat} {r : List Int} : r ∈ sbR n m ↔ r ∈ pkI (n + 1) (rgI m) := by
  rw [pk_mem rg_rise]
  unfold sbR
  rw [List.mem_flatMap]
  constructor
  · rintro ⟨l, hl, h⟩
    rw [List.mem_range] at hl
    obtain ⟨t, ht, rfl⟩ := List.mem_map.mp h
    obtain ⟨h1, h2, h3⟩ := (pk_mem rg_rise).mp ht
    refine ⟨List.pairwise_append.mpr ⟨h1, List.pairwise_singleton _ _, fun a ha b hb => ?_⟩, by simp [h2], fun x hx => ?_⟩
    · rw [List.mem_singleton.mp hb]
      exact (mem_rg.mp (h3 a ha)).2
    · rcases List.mem_append.mp hx with hx | hx
      · have := mem_rg.mp (h3 x hx)
        exact mem_rg.mpr ⟨this.1, by omega⟩
      · rw [List.mem_singleton.mp hx]
        exact mem_rg.mpr ⟨by omega, by omega⟩
  · rintro ⟨h1, h2, h3⟩
    rcases List.eq_nil_or_concat r with e | ⟨t, z, e⟩
    · rw [e] at h2; cases h2
    · rw [List.concat_eq_append] at e
      subst e
      have hz := mem_rg.mp (h3 z (by simp))
      obtain ⟨p1, _, p3⟩ := List.pairwise_append.mp h1
      obtain ⟨l, rfl⟩ : ∃ l : Nat, z = (l : Int) := ⟨z.toNat, by omega⟩
      refine ⟨l, List.mem_range.mpr (by omega), List.mem_map.mpr ⟨t, (pk_mem rg_rise).mpr ⟨p1, by simpa using h2, fun x hx => ?_⟩, rfl⟩⟩
      have := mem_rg.mp (h3 x (by simp [hx]))
      exact mem_rg.mpr ⟨this.1, p3 x hx (l : Int) (by simp)⟩
theorem sb_nd {n m : Nat} : (sbR n m).Nodup := by
  unfold sbR
  refine fm_nd List.nodup_range (fun l _ => ?_) fun a _ b _ z h1 h2 => ?_
  · exact List.Pairwise.map _ (fun a b h z => h (List.append_cancel_right z)) (pk_nd rg_rise)
  · obtain ⟨s, _, rfl⟩ := List.mem_map.mp h1
    obtain ⟨t, _, e⟩ := List.mem_map.mp h2
    have e2 := congrArg List.reverse e
    rw [List.reverse_append, List.reverse_append] at e2
    have := (List.cons.inj e2).1
    omega
theorem sb_sort {n m : Nat} : sortL (sbR n m) = pkI (n + 1) (rgI m) :=
  (sortL_of ((List.perm_ext_iff_of_nodup (pk_nd rg_rise) sb_nd).mpr fun r => sb_mem.symm) ((pk_pw rg_rise).imp fun h => ltL_asym h)).symm
end H

set_option Elab.async false
set_option linter.all false
set_option maxRecDepth 100000
namespace H
open PySem PySem.Spec PyProof.Rows L2 Y
abbrev lli (L : List (List Int)) : D := .lst (L.map li)
end H

set_option Elab.async false
set_option linter.all false
set_option maxRecDepth 100000
namespace H
open PySem PySem.Spec PyProof.Rows L2 Y
def cutB (R : List (List Int)) (some : List Int) : Bool := R.all fun r => some.any fun x => decide (x ∈ r)
theorem eq_nilI {xs : List Int} : eqD (li xs) (.lst []) = .ok (.bl xs.isEmpty) := by
  have e := eq_li (xs := xs) (ys := [])
  have e2 : decide (xs = []) = xs.isEmpty := by cases xs <;> rfl
  rw [e2] at e
  exact e
theorem cut_eq {R : List (List Int)} {so : List Int} : (R.filter fun r => (r.filter fun k => decide (k ∈ so)).isEmpty).isEmpty = cutB R so := by
  unfold cutB
  rw [Bool.eq_iff_iff, List.isEmpty_iff, List.filter_eq_nil_iff, List.all_eq_true]
  constructor
  · intro h r hr
    have := h r hr
    rw [List.isEmpty_iff, List.filter_eq_nil_iff] at this
    rw [List.any_eq_true]
    by_cases c : ∃ x ∈ so, decide (x ∈ r) = true
    · exact c
    · refine absurd (fun x hx z => c ⟨x, of_decide_eq_true z, decide_eq_true hx⟩) this
  · intro h r hr z
    rw [List.isEmpty_iff, List.filter_eq_nil_iff] at z
    obtain ⟨x, hx, hxr⟩ := List.any_eq_true.mp (h r hr)
    exact z x (of_decide_eq_true hxr) (decide_eq_true hx)
end H

set_option Elab.async false
set_option linter.all false
set_option maxRecDepth 100000
namespace H
open PySem PySem.Spec PyProof.Rows L2 Y
theorem pk_eq : ∀ {n : Nat} {xs : List Int}, pkI n xs = pkG n xs
  | 0, xs => by unfold pkI pkG; rfl
  | n + 1, xs => by
    rw [pkG_at]
    unfold pkI
    rw [List.flatMap_def, List.flatMap_def]
    refine congrArg List.flatten (List.map_congr_left fun i hi => ?_)
    have hi := List.mem_range.mp hi
    rw [List.getElem?_eq_getElem hi, pk_eq, List.getD_eq_getElem?_getD, List.getElem?_eq_getElem hi]
    rfl
theorem pk8_len {n m : Nat} (hm : m ≤ 8) (hn : n ≤ 8) : (pkI n (rgI m)).length ≤ 13884156 := by
  rw [pk_eq]
  exact pkG_le (by rw [rgI_len]; omega) hn
theorem sb_pre {n i m : Nat} (hm : m ≤ 8) (hn : n ≤ 7) (hi : i ≤ m) : ((List.range i).flatMap fun l => (pkI n (rgI l)).map fun r => r ++ [(l : Int)]).length ≤ 13884156 := by
  have e : (sbR n m).length = (pkI (n + 1) (rgI m)).length := ((List.perm_ext_iff_of_nodup sb_nd (pk_nd rg_rise)).mpr fun r => sb_mem).length_eq
  have l := pk8_len (n := n + 1) (m := m) hm (by omega)
  unfold sbR at e
  rw [show m = i + (m - i) by omega, List.range_add, List.flatMap_append, List.length_append] at e
  rw [show i + (m - i) = m by omega] at e
  omega
theorem subsets8_ok : ∀ {n k m : Nat}, n < k → m ≤ 8 → n ≤ 8 → C.r__law_subsets k [.int m, .int n] = .ok (.fr (lli (pkI n (rgI m))))
  | n, 0, m, h, _, _ => absurd h (by omega)
  | 0, k + 1, m, _, hl, _ => by
    have z1 : szOk 1 = true := szOk_of (by omega)
    have z0 : szOk 0 = true := szOk_of (by omega)
    simp only [C.r__law_subsets, C.m__law_subsets]
    simp [e_fnP, pkI, z1, z0]
  | n + 1, k + 1, m, h, hm, hn => by
    have lp := for_idx (tm := tmName 3) (body := C.b__law_subsets_1 (C.r__law_subsets k)) (vs := [3]) (ws := []) (fun i : Nat => D.int (i : Nat)) (List.range m) (fun i => [some (.int m), some (.int ((n + 1 : Nat) : Int)), some (lli ((List.range i).flatMap fun l => (pkI n (rgI l)).map fun r => r ++ [(l : Int)])), none, none]) fun i hi => by
      rw [List.length_range] at hi
      refine ⟨by simp, ?_⟩
      rw [List.getElem_range, flat_range]
      have g := subsets8_ok (n := n) (k := k) (m := i) (by omega) (by omega) (by omega)
      have sl := sb_pre (n := n) (i := i + 1) (m := m) hm (by omega) (by omega)
      rw [flat_range, List.length_append, List.length_map] at sl
      have rl := pk8_len (n := n) (m := i) (by omega) (by omega)
      generalize hG : (List.range i).flatMap (fun l => (pkI n (rgI l)).map fun r => r ++ [(l : Int)]) = FL at *
      have c2 := comp_map (tm := tmName 4) (t := cYes) (e := C.e__law_subsets_1 (C.r__law_subsets k)) (vs := [4]) (ws := []) (ρ := [some (.int m), some (.int ((n + 1 : Nat) : Int)), some (lli FL), some (.int i), none]) li (fun r => li (r ++ [(i : Int)])) (pkI n (rgI i)) fun r hr => by
        have rl := pk_size hr
        have z' : szOk (r.length + 1) = true := szOk_of (by omega)
        simp only [turnC, C.e__law_subsets_1]
        generalize lli FL = F2 at *
        simp [z', szOk_of]
      have m1 : (pkI n (rgI i)).map (fun r => li (r ++ [(i : Int)])) = ((pkI n (rgI i)).map fun r => r ++ [(i : Int)]).map li := by rw [List.map_map]; rfl
      rw [m1] at c2
      have el : lli (FL ++ (pkI n (rgI i)).map fun r => r ++ [(i : Int)]) = .lst (FL.map li ++ ((pkI n (rgI i)).map fun r => r ++ [(i : Int)]).map li) := by show D.lst _ = _; rw [List.map_append]
      have zf : szOk ((FL.map li).length + (((pkI n (rgI i)).map fun r => r ++ [(i : Int)]).map li).length) = true := szOk_of (by rw [List.length_map, List.length_map, List.length_map]; omega)
      have zr : szOk ((pkI n (rgI i)).map li).length = true := szOk_of (by rw [List.length_map]; omega)
      have q3 : lli FL = .lst (FL.map li) := rfl
      rw [q3] at c2
      rw [el, q3]
      have g : C.r__law_subsets k [.int i, .int n] = .ok (.fr (.lst ((pkI n (rgI i)).map li))) := g
      have sb : subD (.int ((n + 1 : Nat) : Int)) (.int 1) = .ok (.int (n : Nat)) := by
        rw [d_sub]
        have : ((n + 1 : Nat) : Int) - 1 = (n : Int) := by omega
        rw [this]
      generalize ((n + 1 : Nat) : Int) = n1 at *
      simp only [turnF, C.b__law_subsets_1]
      generalize C.e__law_subsets_1 (C.r__law_subsets k) = E2 at *
      generalize (((pkI n (rgI i)).map fun r => r ++ [(i : Int)]).map li) = A1 at *
      generalize (pkI n (rgI i)).map li = A2 at *
      generalize FL.map li = A3 at *
      simp [sb, g, zr, c2, zf, -d_sub]
    rw [List.length_range] at lp
    have lp : forL (tmName 3) (C.b__law_subsets_1 (C.r__law_subsets k)) [3] [] ((List.range m).map fun i : Nat => D.int (i : Nat)) [some (.int m), some (.int ((n + 1 : Nat) : Int)), some (.lst []), none, none] = .ok (.nx, [some (.int m), some (.int ((n + 1 : Nat) : Int)), some (lli (sbR n m)), none, none]) := lp
    have so := sort_lis (L := sbR n m) (n := n + 1) fun p hp => pk_size (sb_mem.mp hp)
    rw [sb_sort] at so
    have so : sortGD [lli (sbR n m)] = .ok (lli (pkI (n + 1) (rgI m))) := so
    have rk : rngOk (m : Nat) = true := rngOk_of (by omega) (by omega)
    have zk : szOk m = true := szOk_of (by omega)
    have ne : eqD (.int ((n + 1 : Nat) : Int)) (.int 0) = .ok (.bl false) := by
      rw [eqD_int, decide_eq_false (by omega)]
    have z0 : szOk 0 = true := szOk_of (by omega)
    simp only [C.r__law_subsets, C.m__law_subsets]
    generalize ((n + 1 : Nat) : Int) = n1 at *
    generalize C.b__law_subsets_1 (C.r__law_subsets k) = B at *
    generalize lli (pkI (n + 1) (rgI m)) = LX at *
    generalize lli (sbR n m) = LS at *
    simp [e_fnP, ne, lp, rk, zk, z0, so, -eqD_int]
def unI (a b : List Int) : List Int := ((List.range a.length).filter fun s => !decide (a.getD s 0 = b.getD s 0)).map fun s : Nat => (s : Int)
theorem un_len {a b : List Int} : (unI a b).length ≤ a.length := by
  unfold unI
  rw [List.length_map]
  have := List.length_filter_le (fun s => !decide (a.getD s 0 = b.getD s 0)) (List.range a.length)
  rw [List.length_range] at this
  exact this
theorem un_in {a b : List Int} {x : Int} (h : x ∈ unI a b) : x ∈ rgI a.length := by
  obtain ⟨s, hs, rfl⟩ := List.mem_map.mp h
  have := List.mem_range.mp (List.mem_filter.mp hs).1
  exact mem_rg.mpr ⟨by omega, by omega⟩
theorem un_nil {a b : List Int} (hl : a.length = b.length) (h : unI a b = []) : a = b := by
  have h := List.map_eq_nil_iff.mp h
  rw [List.filter_eq_nil_iff] at h
  refine List.ext_getElem hl fun i h1 h2 => ?_
  have := h i (List.mem_range.mpr h1)
  rw [List.getD_eq_getElem?_getD, List.getD_eq_getElem?_getD, List.getElem?_eq_getElem h1, List.getElem?_eq_getElem h2] at this
  simpa using this
theorem at_iN {A : List Int} {s : Nat} (h : s < A.length) : atI (A.map D.int) (s : Int) = some (.int (A.getD s 0)) := by
  rw [atI_of (j := s) rfl (by rw [List.getElem?_map, List.getElem?_eq_getElem h]; rfl), List.getD_eq_getElem?_getD, List.getElem?_eq_getElem h]
  rfl
def unP (ss : List SeT) (i j : Nat) : List Int := unI (ss.getD i ([], 0, 0)).1 (ss.getD j ([], 0, 0)).1
theorem getD_mem' {ss : List SeT} {i : Nat} (h : i < ss.length) : ss.getD i ([], 0, 0) ∈ ss := by
  rw [List.getD_eq_getElem?_getD, List.getElem?_eq_getElem h]
  exact List.getElem_mem h
theorem unlike_in_ok {ss : List SeT} {m i j : Nat} (hm : m ≤ 8) (hs : ∀ s ∈ ss, OkS m s) (hi : i < ss.length) (hj : j < ss.length) : C.g_unlike_in [.lst (ss.map dS), .tup [.int i, .int j]] = .ok (.fr (ti (unP ss i j))) := by
  have a1 := at_pl hi
  have a2 := at_pl hj
  have l1 := (hs _ (getD_mem' hi)).st.len
  have l2 := (hs _ (getD_mem' hj)).st.len
  have c1 := comp_map (tm := tmName 4) (t := cYes) (e := C.e_unlike_in_1) (vs := [4]) (ws := []) (ρ := [some (.lst (ss.map dS)), some (.tup [.int i, .int j]), none, none, none, none]) (fun x : Nat => D.int (x : Nat)) (fun x => ti (ss.getD x ([], 0, 0)).1) [i, j] (fun x hx' => by
    have hx2 : x < ss.length := by
      simp only [List.mem_cons, List.not_mem_nil, or_false] at hx'
      rcases hx' with rfl | rfl <;> assumption
    have ax := at_pl hx2
    generalize ss.getD x ([], 0, 0) = sx at *
    obtain ⟨x1, x2, x3⟩ := sx
    have i0 : ixD (dS (x1, x2, x3)) (.int 0) = .ok (ti x1) := rfl
    simp only [turnC, C.e_unlike_in_1]
    generalize dS (x1, x2, x3) = DX at *
    generalize ti x1 = TX at *
    generalize ss.map dS = SD at *
    simp [ax, i0])
  have c1 : cCompL (tmName 4) cYes C.e_unlike_in_1 [4] [] [.int i, .int j] [some (.lst (ss.map dS)), some (.tup [.int i, .int j]), none, none, none, none] = .ok ([ti (ss.getD i ([], 0, 0)).1, ti (ss.getD j ([], 0, 0)).1], [some (.lst (ss.map dS)), some (.tup [.int i, .int j]), none, none, none, none]) := c1
  unfold unP
  generalize (ss.getD i ([], 0, 0)).1 = A at *
  generalize (ss.getD j ([], 0, 0)).1 = B at *
  have c2 := comp_filter (tm := tmName 5) (t := C.t_unlike_in_2) (e := C.e_unlike_in_2) (vs := [5]) (ws := []) (ρ := [some (.lst (ss.map dS)), some (.tup [.int i, .int j]), some (ti A), some (ti B), none, none]) (fun x : Nat => D.int (x : Nat)) (fun s => !decide (A.getD s 0 = B.getD s 0)) (fun x : Nat => D.int (x : Nat)) (List.range A.length) fun s hs' => by
    have hs' := List.mem_range.mp hs'
    have x1 := at_iN (A := A) (s := s) hs'
    have x2 := at_iN (A := B) (s := s) (by omega)
    have nb : neD (.int (A.getD s 0)) (.int (B.getD s 0)) = .ok (.bl (!decide (A.getD s 0 = B.getD s 0))) := neD_int
    generalize A.getD s 0 = u at *
    generalize B.getD s 0 = v at *
    generalize decide (u = v) = q at *
    simp only [turnC, C.t_unlike_in_2, C.e_unlike_in_2]
    generalize ss.map dS = SD at *
    cases q <;> simp [x1, x2, nb, -neD_int]
  have e2 : (((List.range A.length).filter fun s => !decide (A.getD s 0 = B.getD s 0)).map fun x : Nat => D.int (x : Nat)) = (unI A B).map D.int := by unfold unI; rw [List.map_map]; rfl
  rw [e2] at c2
  have z1 : szOk (unI A B).length = true := szOk_of (by have := un_len (a := A) (b := B); omega)
  have z2 : szOk ((unI A B).map D.int).length = true := by rw [List.length_map]; exact z1
  have lnA : lenD [.tup (A.map D.int)] = .ok (.int A.length) := by simp
  have rk : rngOk (A.length : Nat) = true := rngOk_of (by omega) (by omega)
  have zk : szOk A.length = true := szOk_of (by omega)
  have q3 : ti A = .tup (A.map D.int) := rfl
  have q4 : ti B = .tup (B.map D.int) := rfl
  show _ = Y.R.ok (Hd.fr (.tup ((unI A B).map D.int)))
  rw [q3, q4] at c1 c2
  simp only [C.g_unlike_in, C.m_unlike_in]
  generalize (unI A B).map D.int = X at *
  generalize C.t_unlike_in_2 = T1 at *
  generalize C.e_unlike_in_2 = E2 at *
  generalize C.e_unlike_in_1 = E1 at *
  generalize ss.map dS = SD at *
  generalize A.map D.int = AD at *
  generalize B.map D.int = BD at *
  generalize A.length = N at *
  simp [e_fnP, c1, szOk_of, lnA, rk, zk, c2, z2]
theorem pair_of {ss : List SeT} {k : Nat} {d : D} (h : pairB ss k d = true) : ∃ i j : Nat, i < ss.length ∧ j < ss.length ∧ d = .tup [.int i, .int j] ∧ pB ss k i j = true := by
  cases d with
  | tup xs =>
    by_cases c : xs.length = 2
    · match xs, c, h with
      | [x, y], _, h =>
        cases hw : [x, y].all whB with
        | false => rw [pairB_wh hw] at h; cases h
        | true =>
          obtain ⟨is, e⟩ := whs_ints hw
          match is, e with
          | [a, b], e =>
            have e : [x, y] = [.int a, .int b] := e
            injection e with e1 e2
            injection e2 with e2 _
            subst e1; subst e2
            rw [pairB_two, Bool.and_eq_true, Bool.and_eq_true, decide_eq_true_eq, decide_eq_true_eq] at h
            obtain ⟨⟨h1, h2⟩, h3⟩ := h
            refine ⟨a.toNat, b.toNat, by omega, by omega, ?_, h3⟩
            rw [show ((a.toNat : Nat) : Int) = a by omega, show ((b.toNat : Nat) : Int) = b by omega]
          | [], e => cases e
          | [_], e => cases e
          | _ :: _ :: _ :: _, e => cases e
    · rw [pairB_len c] at h; cases h
  | _ => cases h
theorem un_pair {ss : List SeT} {m k i j : Nat} (hs : ∀ s ∈ ss, OkS m s) (nc : NoCl ss) (hi : i < ss.length) (hj : j < ss.length) (h : pB ss k i j = true) : unP ss i j ≠ [] ∧ ∀ x ∈ unP ss i j, x ∈ rgI m := by
  have m1 := getD_mem' hi
  have m2 := getD_mem' hj
  have o1 := (hs _ m1).st.len
  have o2 := (hs _ m2).st.len
  have cl := nc _ m1 _ m2
  unfold pB at h
  unfold unP
  generalize ss.getD i ([], 0, 0) = s at *
  generalize ss.getD j ([], 0, 0) = t at *
  rw [Bool.and_eq_true, Bool.and_eq_true, decide_eq_true_eq, decide_eq_true_eq, Bool.not_eq_true', decide_eq_false_iff_not] at h
  refine ⟨fun z => h.2.2 (cl (un_nil (by omega) z) (by omega)), fun x hx => ?_⟩
  have := un_in hx
  rw [o1] at this
  exact this
end H

set_option Elab.async false
set_option linter.all false
set_option maxRecDepth 100000
namespace H
open PySem PySem.Spec PyProof.Rows L2 Y
theorem kw_many : kindW "TooMany" = "many" := by decide +kernel
end H

set_option Elab.async false
set_option linter.all false
set_option maxRecDepth 100000
namespace H
open PySem PySem.Spec PyProof.Rows L2 Y
end H

set_option Elab.async false
set_option linter.all false
set_option maxRecDepth 100000
namespace H
open PySem PySem.Spec PyProof.Rows L2 Y
theorem for_first {α β : Type} {tm : GM} {body : SM} {vs ws : List Nat} (F : α → D) (f : α → Option β) (hd : β → Hd) : ∀ (xs : List α) (ρ : Y.Env), (∀ x ∈ xs, (f x = none → turnF tm body vs (F x) ρ = .ok (.nx, ρ)) ∧ (∀ b, f x = some b → ∃ ρ', turnF tm body vs (F x) ρ = .ok (.rt (hd b), ρ'))) →
    (xs.findSome? f = none → forL tm body vs ws (xs.map F) ρ = .ok (.nx, ρ)) ∧ (∀ b, xs.findSome? f = some b → ∃ ρ', forL tm body vs ws (xs.map F) ρ = .ok (.rt (hd b), ρ'))
  | [], ρ, _ => ⟨fun _ => rfl, fun b h => by cases h⟩
  | x :: xs, ρ, h => by
    obtain ⟨h1, h2⟩ := h x (by simp)
    have ih := for_first (ws := ws) F f hd xs ρ fun y hy => h y (by simp [hy])
    rw [List.map_cons, List.findSome?_cons]
    cases e : f x with
    | none =>
      have t := h1 e
      refine ⟨fun z => for_cons t (fun _ _ => rfl) (ih.1 z), fun b z => ?_⟩
      obtain ⟨ρ', r⟩ := ih.2 b z
      exact ⟨ρ', for_cons t (fun _ _ => rfl) r⟩
    | some b0 =>
      obtain ⟨ρ', t⟩ := h2 b0 e
      refine ⟨fun z => (by cases z), fun b z => ?_⟩
      cases z
      exact ⟨ρ', for_rt t⟩
def cutO (R : List (List Int)) (s : List Int) : Option (List Int) := if cutB R s = true then some s else none
theorem pk_short : ∀ {n : Nat} {xs : List Int}, xs.length < n → pkI n xs = []
  | 0, xs, h => absurd h (by omega)
  | n + 1, xs, h => by
    unfold pkI
    rw [List.flatMap_eq_nil_iff]
    intro i hi
    rw [List.mem_range] at hi
    rw [pk_short (by rw [List.length_drop]; omega)]
    rfl
theorem pk_full : ∀ {n : Nat} {xs : List Int}, xs.length = n → pkI n xs = [xs]
  | 0, xs, h => by rw [List.eq_nil_of_length_eq_zero h]; rfl
  | n + 1, [], h => by cases h
  | n + 1, x :: t, h => by
    have h : t.length = n := by simpa using h
    unfold pkI
    rw [List.length_cons, List.range_succ_eq_map, List.flatMap_cons]
    have e1 : (pkI n ((x :: t).drop (0 + 1))).map (fun r => (x :: t).getD 0 0 :: r) = [x :: t] := by
      show (pkI n t).map _ = _
      rw [pk_full h]
      rfl
    rw [e1]
    have e2 : ((List.range t.length).map Nat.succ).flatMap (fun i => (pkI n ((x :: t).drop (i + 1))).map fun r => (x :: t).getD i 0 :: r) = [] := by
      rw [List.flatMap_eq_nil_iff]
      intro i hi
      obtain ⟨j, hj, rfl⟩ := List.mem_map.mp hi
      rw [List.mem_range] at hj
      rw [pk_short (by rw [List.length_drop, List.length_cons]; omega)]
      rfl
    rw [e2]
    rfl
end H

set_option Elab.async false
set_option linter.all false
set_option maxRecDepth 100000
namespace H
open PySem PySem.Spec PyProof.Rows L2 Y
def hitO (U : List (List Int)) (m k : Nat) : Option (List Int) := (pkI k (rgI m)).findSome? (cutO U)
theorem hit_full {U : List (List Int)} {m : Nat} (h : ∀ u ∈ U, u ≠ [] ∧ ∀ x ∈ u, x ∈ rgI m) : hitO U m m = some (rgI m) := by
  have c : cutB U (rgI m) = true := by
    unfold cutB
    rw [List.all_eq_true]
    intro u hu
    obtain ⟨h1, h2⟩ := h u hu
    cases u with
    | nil => exact absurd rfl h1
    | cons a s => exact List.any_eq_true.mpr ⟨a, h2 a (by simp), decide_eq_true (by simp)⟩
  unfold hitO
  rw [pk_full rgI_len, List.findSome?_cons]
  unfold cutO
  rw [c, if_pos rfl]
theorem hit_least {U : List (List Int)} {m : Nat} (h : ∀ u ∈ U, u ≠ [] ∧ ∀ x ∈ u, x ∈ rgI m) : ∃ (k : Nat) (s : List Int), k ≤ m ∧ hitO U m k = some s ∧ ∀ j, j < k → hitO U m j = none := by
  obtain ⟨k, k1, k2, k3⟩ := leastN (P := fun k => (hitO U m k).isSome = true) m (by rw [hit_full h]; rfl)
  obtain ⟨s, es⟩ := Option.isSome_iff_exists.mp k2
  refine ⟨k, s, k1, es, fun j hj => ?_⟩
  have := k3 j hj
  cases e : hitO U m j with
  | none => rfl
  | some z => rw [e] at this; exact absurd rfl this
theorem picked8_ok {m k : Nat} (hm : m ≤ 8) (hk : k ≤ 8) : C.g_picked [li (rgI m), .int k] = .ok (.fr (.lst ((pkI k (rgI m)).map ti))) := by
  have := pickG_ok (n := k) (k := 40) (xs := (rgI m).map D.int) (by omega) (by rw [List.length_map, rgI_len]; omega) hk
  rw [pkG_map] at this
  have e : lt' ((pkG k (rgI m)).map (List.map D.int)) = .lst ((pkI k (rgI m)).map ti) := by
    rw [pk_eq]
    show D.lst _ = _
    rw [List.map_map]
    rfl
  rw [e] at this
  exact this
section
variable {U : List (List Int)} {m : Nat}
theorem least_inner {k : Nat} (hm : m ≤ 8) (hk : k ≤ 8) (hU : U.length ≤ 1000000) :
    (hitO U m k = none → C.b_least_through_2 [some (.int m), some (.lst (U.map ti)), some (.int k), none, none, none] = .ok (.nx, [some (.int m), some (.lst (U.map ti)), some (.int ((k + 1 : Nat) : Int)), none, none, none])) ∧
    (∀ s, hitO U m k = some s → ∃ ρ', C.b_least_through_2 [some (.int m), some (.lst (U.map ti)), some (.int k), none, none, none] = .ok (.rt (.vl (.int k)), ρ')) := by
  have rg := rgB_of (n := m) (by omega)
  have er : D.lst (rgD 0 m) = li (rgI m) := by
    rw [rgD_nat]
    unfold rgI
    show D.lst _ = D.lst _
    rw [List.map_map]
    rfl
  have pk := picked8_ok hm hk
  have pl := pk8_len hm hk
  have zp : szOk ((pkI k (rgI m)).map ti).length = true := szOk_of (by rw [List.length_map]; omega)
  have zu : szOk (U.map ti).length = true := szOk_of (by rw [List.length_map]; omega)
  have inn := for_first (tm := tmName 3) (body := C.b_least_through_1) (vs := [3]) (ws := []) ti (cutO U) (fun _ => Hd.vl (.int k)) (pkI k (rgI m)) [some (.int m), some (.lst (U.map ti)), some (.int k), none, none, none] fun s hs => by
    have sl := pk_size hs
    have zs : szOk (s.map D.int).length = true := szOk_of (by rw [List.length_map]; omega)
    have c2 := comp_map (tm := tmName 4) (t := cYes) (e := C.e_least_through_2) (vs := [4]) (ws := []) (ρ := [some (.int m), some (.lst (U.map ti)), some (.int k), some (ti s), none, none]) ti (fun r => D.bl (s.any fun x => decide (x ∈ r))) U fun r _ => by
      have c1 := comp_map (tm := tmName 5) (t := cYes) (e := C.e_least_through_1) (vs := [5]) (ws := []) (ρ := [some (.int m), some (.lst (U.map ti)), some (.int k), some (ti s), some (ti r), none]) D.int (fun x => D.bl (decide (x ∈ r))) s fun x _ => by
        have i := in_tI (x := x) (xs := r)
        simp only [turnC, C.e_least_through_1]
        generalize U.map ti = LR at *
        generalize ti r = TR at *
        generalize ti s = TS at *
        simp [i]
      have e2 : (s.map fun x => D.bl (decide (x ∈ r))) = (s.map fun x => decide (x ∈ r)).map D.bl := by rw [List.map_map]; rfl
      have an : anyD [.lst (s.map fun x => D.bl (decide (x ∈ r)))] = .ok (.bl (s.any fun x => decide (x ∈ r))) := by rw [e2, d_any, List.any_map]; rfl
      have q3 : ti s = .tup (s.map D.int) := rfl
      rw [q3] at c1 ⊢
      simp only [turnC, C.e_least_through_2]
      generalize (s.map fun x => D.bl (decide (x ∈ r))) = Q at *
      generalize (s.any fun x => decide (x ∈ r)) = q at *
      generalize C.e_least_through_1 = E1 at *
      generalize s.map D.int = SD at *
      generalize U.map ti = LR at *
      generalize ti r = TR at *
      simp [zs, c1, an]
    have e2 : (U.map fun r => D.bl (s.any fun x => decide (x ∈ r))) = (U.map fun r => s.any fun x => decide (x ∈ r)).map D.bl := by rw [List.map_map]; rfl
    have al : allD [.lst (U.map fun r => D.bl (s.any fun x => decide (x ∈ r)))] = .ok (.bl (cutB U s)) := by rw [e2, d_all, List.all_map]; rfl
    unfold cutO
    cases c : cutB U s with
    | true =>
      rw [c] at al
      refine ⟨fun z => by simp at z, fun b z => ⟨[some (.int m), some (.lst (U.map ti)), some (.int k), some (ti s), none, none], ?_⟩⟩
      simp only [turnF, C.b_least_through_1]
      generalize (U.map fun r => D.bl (s.any fun x => decide (x ∈ r))) = Q at *
      generalize C.e_least_through_2 = E1 at *
      generalize U.map ti = RD at *
      generalize ti s = TS at *
      simp [zu, c2, al]
    | false =>
      rw [c] at al
      refine ⟨fun _ => ?_, fun b z => by simp at z⟩
      simp only [turnF, C.b_least_through_1]
      generalize (U.map fun r => D.bl (s.any fun x => decide (x ∈ r))) = Q at *
      generalize C.e_least_through_2 = E1 at *
      generalize U.map ti = RD at *
      generalize ti s = TS at *
      simp [zu, c2, al]
  unfold hitO
  refine ⟨fun e => ?_, fun s e => ?_⟩
  · have i1 := inn.1 e
    have ek : ((k + 1 : Nat) : Int) = (k : Int) + 1 := by omega
    rw [ek]
    simp only [C.b_least_through_2]
    generalize C.b_least_through_1 = B1 at *
    generalize (pkI k (rgI m)).map ti = PL at *
    generalize li (rgI m) = LI at *
    generalize U.map ti = RD at *
    simp [rg, er, pk, zp, i1]
  · obtain ⟨ρ', i1⟩ := inn.2 s e
    refine ⟨ρ', ?_⟩
    simp only [C.b_least_through_2]
    generalize C.b_least_through_1 = B1 at *
    generalize (pkI k (rgI m)).map ti = PL at *
    generalize li (rgI m) = LI at *
    generalize U.map ti = RD at *
    simp [rg, er, pk, zp, i1]
theorem least_go (hm : m ≤ 8) (hU : U.length ≤ 1000000) {k : Nat} {s : List Int} (hk : k ≤ m) (hs : hitO U m k = some s) (hn : ∀ j, j < k → hitO U m j = none) : ∀ f j, k - j ≤ f → j ≤ k →
    ∃ ρ', whileN (cTru (cC (.bl true))) C.b_least_through_2 [3] (f + 1) [some (.int m), some (.lst (U.map ti)), some (.int j), none, none, none] = .ok (.rt (.vl (.int k)), ρ')
  | 0, j, h1, h2 => by
    have : j = k := by omega
    subst this
    obtain ⟨ρ', e⟩ := (least_inner (k := j) hm (by omega) hU).2 s hs
    refine ⟨ρ', ?_⟩
    unfold whileN
    generalize C.b_least_through_2 = B at *
    simp [e]
  | f + 1, j, h1, h2 => by
    by_cases c : j = k
    · subst c
      obtain ⟨ρ', e⟩ := (least_inner (k := j) hm (by omega) hU).2 s hs
      refine ⟨ρ', ?_⟩
      unfold whileN
      generalize C.b_least_through_2 = B at *
      simp [e]
    · obtain ⟨ρ', w⟩ := least_go hm hU hk hs hn f (j + 1) (by omega) (by omega)
      have e := (least_inner (k := j) hm (by omega) hU).1 (hn j (by omega))
      refine ⟨ρ', ?_⟩
      rw [whileN_step' (ρ1 := [some (.int m), some (.lst (U.map ti)), some (.int j), none, none, none]) (by simp) e]
      exact w
theorem least_through_ok (hm : m ≤ 8) (hU : U.length ≤ 1000000) {k : Nat} {s : List Int} (hk : k ≤ m) (hs : hitO U m k = some s) (hn : ∀ j, j < k → hitO U m j = none) : C.g_least_through [.int m, .lst (U.map ti)] = .ok (.vl (.int k)) := by
  obtain ⟨ρ', w⟩ := least_go hm hU hk hs hn k 0 (by omega) (by omega)
  have w := sWhile_of w
  have w : sWhile (cTru (cC (.bl true))) C.b_least_through_2 [3] [some (.int m), some (.lst (U.map ti)), some (.int 0), none, none, none] = _ := w
  simp only [C.g_least_through, C.m_least_through]
  generalize C.b_least_through_2 = B at *
  generalize U.map ti = RD at *
  simp [e_fnP, w]
end
end H

set_option Elab.async false
set_option linter.all false
set_option maxRecDepth 100000
namespace H
open PySem PySem.Spec PyProof.Rows L2 Y
structure Pp (d : D) : Prop where
  no : noDit d = true
  na : ∀ l, d ≠ .arg l
  lst : ∀ xs, d = .lst xs → xs.length ≤ 60 ∧ ∀ x ∈ xs, Th x
def dPr (p : Nat × Nat) : D := .tup [.int p.1, .int p.2]
theorem pairs_of {ss : List SeT} {k : Nat} : ∀ {xs : List D}, xs.all (pairB ss k) = true → ∃ L : List (Nat × Nat), xs = L.map dPr ∧ ∀ p ∈ L, p.1 < ss.length ∧ p.2 < ss.length ∧ pB ss k p.1 p.2 = true
  | [], _ => ⟨[], rfl, by simp⟩
  | x :: xs, h => by
    rw [List.all_cons, Bool.and_eq_true] at h
    obtain ⟨i, j, h1, h2, rfl, h3⟩ := pair_of h.1
    obtain ⟨L, rfl, h4⟩ := pairs_of h.2
    refine ⟨(i, j) :: L, rfl, fun p hp => ?_⟩
    rcases List.mem_cons.mp hp with rfl | hp
    · exact ⟨h1, h2, h3⟩
    · exact h4 p hp
def unS (ss : List SeT) (L : List (Nat × Nat)) : List (List Int) := L.map fun p => unP ss p.1 p.2
section
variable {ss : List SeT} {m k : Nat}
theorem due7_sets {L : List (Nat × Nat)} {d : D} (hm : m ≤ 8) (hs : ∀ s ∈ ss, OkS m s) (hL : L.length ≤ 60) (hp : ∀ p ∈ L, p.1 < ss.length ∧ p.2 < ss.length ∧ pB ss k p.1 p.2 = true) :
    forL (tmTup [5, 6]) C.b__law_due_7_1 [5, 6] [] (L.map dPr) [some (.int m), some (.lst (ss.map dS)), some (.int k), some d, some (.lst []), none, none, none, none, none, none, none] = .ok (.nx, [some (.int m), some (.lst (ss.map dS)), some (.int k), some d, some (.lst ((unS ss L).map li)), none, none, none, none, none, none, none]) := by
  have lp := for_idx (tm := tmTup [5, 6]) (body := C.b__law_due_7_1) (vs := [5, 6]) (ws := []) dPr L (fun i => [some (.int m), some (.lst (ss.map dS)), some (.int k), some d, some (.lst ((unS ss (L.take i)).map li)), none, none, none, none, none, none, none]) fun i hi => by
    refine ⟨by simp, ?_⟩
    obtain ⟨hi1, hj1, _⟩ := hp _ (List.getElem_mem hi)
    rw [List.take_succ_eq_append_getElem hi]
    have tl : (L.take i).length ≤ 60 := by rw [List.length_take]; omega
    generalize L.take i = TK at *
    generalize L[i] = p at *
    obtain ⟨a, b⟩ := p
    dsimp only at hi1 hj1
    have e1 : unS ss (TK ++ [(a, b)]) = unS ss TK ++ [unP ss a b] := by unfold unS; rw [List.map_append]; rfl
    rw [e1, List.map_append]
    have a1 := at_pl hi1
    have a2 := at_pl hj1
    have l1 := (hs _ (getD_mem' hi1)).st.len
    have l2 := (hs _ (getD_mem' hj1)).st.len
    unfold unP
    have la : (unS ss TK).length ≤ 60 := by unfold unS; rw [List.length_map]; exact tl
    generalize unS ss TK = TL at *
    generalize ss.getD a ([], 0, 0) = sa at *
    generalize ss.getD b ([], 0, 0) = sb at *
    obtain ⟨A, x2, x3⟩ := sa
    obtain ⟨B, y2, y3⟩ := sb
    dsimp only at l1 l2 ⊢
    have i1 : ixD (dS (A, x2, x3)) (.int 0) = .ok (ti A) := rfl
    have i2 : ixD (dS (B, y2, y3)) (.int 0) = .ok (ti B) := rfl
    generalize dS (A, x2, x3) = DX at *
    generalize dS (B, y2, y3) = DY at *
    have c2 := comp_filter (tm := tmName 9) (t := C.t__law_due_7_2) (e := C.e__law_due_7_2) (vs := [9]) (ws := []) (ρ := [some (.int m), some (.lst (ss.map dS)), some (.int k), some d, some (.lst (TL.map li)), some (.int a), some (.int b), none, none, none, none, none]) (fun x : Nat => D.int (x : Nat)) (fun s => !decide (A.getD s 0 = B.getD s 0)) (fun x : Nat => D.int (x : Nat)) (List.range m) fun s hs' => by
      have hs' := List.mem_range.mp hs'
      have x1 := at_iN (A := A) (s := s) (by omega)
      have x2 := at_iN (A := B) (s := s) (by omega)
      have nb : neD (.int (A.getD s 0)) (.int (B.getD s 0)) = .ok (.bl (!decide (A.getD s 0 = B.getD s 0))) := neD_int
      generalize A.getD s 0 = u at *
      generalize B.getD s 0 = v at *
      generalize decide (u = v) = q at *
      simp only [turnC, C.t__law_due_7_2, C.e__law_due_7_2]
      generalize TL.map li = TD at *
      generalize ss.map dS = SD at *
      cases q <;> simp [a1, a2, i1, i2, x1, x2, nb, -neD_int]
    have e2 : (((List.range m).filter fun s => !decide (A.getD s 0 = B.getD s 0)).map fun x : Nat => D.int (x : Nat)) = (unI A B).map D.int := by unfold unI; rw [List.map_map, l1]; rfl
    rw [e2] at c2
    have z1 : szOk (unI A B).length = true := szOk_of (by have := un_len (a := A) (b := B); omega)
    have z2 : szOk ((unI A B).map D.int).length = true := by rw [List.length_map]; exact z1
    have z3 : szOk (TL.length + 1) = true := szOk_of (by omega)
    have z4 : szOk ((TL.map li).length + 1) = true := by rw [List.length_map]; exact z3
    have rk : rngOk (m : Nat) = true := rngOk_of (by omega) (by omega)
    have zk : szOk m = true := szOk_of (by omega)
    have eu : [unI A B].map li = [.lst ((unI A B).map D.int)] := rfl
    rw [eu]
    simp only [turnF, C.b__law_due_7_1, dPr]
    generalize (unI A B).map D.int = X at *
    generalize C.t__law_due_7_2 = T1 at *
    generalize C.e__law_due_7_2 = E2 at *
    generalize TL.map li = TD at *
    generalize ss.map dS = SD at *
    simp [c2, rk, zk, z2, z4]
  rw [List.take_of_length_le (Nat.le_refl _)] at lp
  exact lp
theorem due7_size {U : List (List Int)} {j : Nat} {d sd : D} (hm : m ≤ 8) (hj : j ≤ 8) (hU : U.length ≤ 60) (hl : ∀ u ∈ U, u.length ≤ 8) :
    (hitO U m j = none → turnF (tmName 7) C.b__law_due_7_3 [7, 8] (.int j) [some (.int m), some sd, some (.int k), some d, some (.lst (U.map li)), none, none, none, none, none, none, none] = .ok (.nx, [some (.int m), some sd, some (.int k), some d, some (.lst (U.map li)), none, none, none, none, none, none, none])) ∧
    (∀ s, hitO U m j = some s → ∃ ρ', turnF (tmName 7) C.b__law_due_7_3 [7, 8] (.int j) [some (.int m), some sd, some (.int k), some d, some (.lst (U.map li)), none, none, none, none, none, none, none] = .ok (.rt (.vl (.int j)), ρ')) := by
  have sb := subsets8_ok (n := j) (k := 40) (m := m) (by omega) hm hj
  have sb : C.g__law_subsets [.int m, .int j] = .ok (.fr (.lst ((pkI j (rgI m)).map li))) := sb
  have pl := pk8_len hm hj
  have zp : szOk ((pkI j (rgI m)).map li).length = true := szOk_of (by rw [List.length_map]; omega)
  have zu : szOk (U.map li).length = true := szOk_of (by rw [List.length_map]; omega)
  have inn := for_first (tm := tmName 8) (body := C.b__law_due_7_2) (vs := [8]) (ws := []) li (cutO U) (fun _ => Hd.vl (.int j)) (pkI j (rgI m)) [some (.int m), some sd, some (.int k), some d, some (.lst (U.map li)), none, none, some (.int j), none, none, none, none] fun so hso => by
    have sl := pk_size hso
    have c2 := comp_filter (tm := tmName 11) (t := C.t__law_due_7_4) (e := C.e__law_due_7_4) (vs := [11]) (ws := [4]) (ρ := [some (.int m), some sd, some (.int k), some d, some (.lst (U.map li)), none, none, some (.int j), some (li so), none, none, none]) li (fun r => (r.filter fun k => decide (k ∈ so)).isEmpty) (fun _ => D.int 1) U fun r hr' => by
      have rl := hl r hr'
      have zr : szOk (r.map D.int).length = true := szOk_of (by rw [List.length_map]; omega)
      have c1 := comp_filter (tm := tmName 9) (t := C.t__law_due_7_3) (e := C.e__law_due_7_3) (vs := [9]) (ws := []) (ρ := [some (.int m), some sd, some (.int k), some d, some (.lst (U.map li)), none, none, some (.int j), some (li so), none, none, some (li r)]) D.int (fun k => decide (k ∈ so)) D.int r fun x _ => by
        have i := in_li (x := x) (xs := so)
        simp only [turnC, C.t__law_due_7_3, C.e__law_due_7_3]
        generalize decide (x ∈ so) = q at *
        generalize U.map li = LR at *
        generalize li so = TS at *
        generalize li r = TR at *
        cases q <;> simp [i]
      have en := eq_nilI (xs := r.filter fun k => decide (k ∈ so))
      have et : li r = .lst (r.map D.int) := rfl
      have el : li (r.filter fun k => decide (k ∈ so)) = .lst ((r.filter fun k => decide (k ∈ so)).map D.int) := rfl
      rw [et] at c1 ⊢
      rw [el] at en
      simp only [turnC, C.t__law_due_7_4, C.e__law_due_7_4]
      generalize (r.filter fun k => decide (k ∈ so)).isEmpty = q at *
      generalize (r.filter fun k => decide (k ∈ so)).map D.int = X at *
      generalize C.t__law_due_7_3 = T1 at *
      generalize C.e__law_due_7_3 = E1 at *
      generalize U.map li = LR at *
      generalize li so = TS at *
      generalize r.map D.int = RD at *
      cases q <;> simp [zr, c1, en]
    have en : eqD (.lst ((U.filter fun r => (r.filter fun k => decide (k ∈ so)).isEmpty).map fun _ => D.int 1)) (.lst []) = .ok (.bl (cutB U so)) := by
      have e1 : ((U.filter fun r => (r.filter fun k => decide (k ∈ so)).isEmpty).map fun _ => D.int 1) = ((U.filter fun r => (r.filter fun k => decide (k ∈ so)).isEmpty).map fun _ => (1 : Int)).map D.int := by rw [List.map_map]; rfl
      rw [e1]
      have := eq_nilI (xs := (U.filter fun r => (r.filter fun k => decide (k ∈ so)).isEmpty).map fun _ => (1 : Int))
      refine this.trans (congrArg (fun q => Y.R.ok (D.bl q)) ?_)
      rw [← cut_eq]
      cases (U.filter fun r => (r.filter fun k => decide (k ∈ so)).isEmpty) <;> rfl
    unfold cutO
    generalize ((U.filter fun r => (r.filter fun k => decide (k ∈ so)).isEmpty).map fun _ => D.int 1) = Q at *
    cases c : cutB U so with
    | true =>
      rw [c] at en
      refine ⟨fun z => by simp at z, fun b z => ⟨[some (.int m), some sd, some (.int k), some d, some (.lst (U.map li)), none, none, some (.int j), some (li so), none, none, none], ?_⟩⟩
      simp only [turnF, C.b__law_due_7_2]
      generalize C.t__law_due_7_4 = T1 at *
      generalize C.e__law_due_7_4 = E1 at *
      generalize U.map li = RD at *
      generalize li so = TS at *
      simp [zu, c2, en, shAt]
    | false =>
      rw [c] at en
      refine ⟨fun _ => ?_, fun b z => by simp at z⟩
      simp only [turnF, C.b__law_due_7_2]
      generalize C.t__law_due_7_4 = T1 at *
      generalize C.e__law_due_7_4 = E1 at *
      generalize U.map li = RD at *
      generalize li so = TS at *
      simp [zu, c2, en, shAt]
  unfold hitO
  refine ⟨fun e => ?_, fun s e => ?_⟩
  · have i1 := inn.1 e
    simp only [turnF, C.b__law_due_7_3]
    generalize C.b__law_due_7_2 = B1 at *
    generalize (pkI j (rgI m)).map li = PL at *
    generalize U.map li = RD at *
    simp [sb, zp, i1]
  · obtain ⟨ρ', i1⟩ := inn.2 s e
    refine ⟨ρ', ?_⟩
    simp only [turnF, C.b__law_due_7_3]
    generalize C.b__law_due_7_2 = B1 at *
    generalize (pkI j (rgI m)).map li = PL at *
    generalize U.map li = RD at *
    simp [sb, zp, i1]
end
end H

set_option Elab.async false
set_option linter.all false
set_option maxRecDepth 100000
namespace H
open PySem PySem.Spec PyProof.Rows L2 Y
section
variable {ss : List SeT} {m k : Nat}
theorem shown_both {d : D} (hm : m ≤ 8) (hl : ss.length ≤ 200) (hs : ∀ s ∈ ss, OkS m s) (nc : NoCl ss) (hd : Pp d) :
    ∃ h : Hd, C.g_ears_shown [.int m, .lst (ss.map dS), .int k, d] = .ok h ∧ C.g__law_due_7 [.int m, .lst (ss.map dS), .int k, d] = .ok h ∧ (h = .fr .non ∨ ∃ j : Nat, h = .vl (.int j)) := by
  have hno := hd.no
  have ncl := no_clash_ok (m := m) (by omega) hl hs nc
  cases d with
  | lst xs =>
    obtain ⟨xl, hx⟩ := hd.lst xs rfl
    have zx : szOk xs.length = true := szOk_of (by omega)
    have c1 := comp_map (tm := tmName 4) (t := cYes) (e := C.e_ears_shown_1) (vs := [4]) (ws := []) (ρ := [some (.int m), some (.lst (ss.map dS)), some (.int k), some (.lst xs), none]) (fun x : D => x) (fun x => D.bl (pairB ss k x)) xs (fun x hx' => by
      have p := is_pair_ok (k := k) (ss := ss) (by omega) (hx x hx')
      simp only [turnC, C.e_ears_shown_1]
      generalize ss.map dS = SD at *
      simp [p])
    have c2 := comp_map (tm := tmName 10) (t := cYes) (e := C.e__law_due_7_1) (vs := [10]) (ws := []) (ρ := [some (.int m), some (.lst (ss.map dS)), some (.int k), some (.lst xs), none, none, none, none, none, none, none, none]) (fun x : D => x) (fun x => D.bl (pairB ss k x)) xs (fun x hx' => by
      have p := law_is_pair_ok (k := k) (ss := ss) (by omega) (hx x hx')
      simp only [turnC, C.e__law_due_7_1]
      generalize ss.map dS = SD at *
      simp [p])
    rw [List.map_id'] at c1 c2
    have e2 : (xs.map fun x => D.bl (pairB ss k x)) = (xs.map (pairB ss k)).map D.bl := by rw [List.map_map]; rfl
    have e3 : allD [.lst (xs.map fun x => D.bl (pairB ss k x))] = .ok (.bl (xs.all (pairB ss k))) := by rw [e2, d_all, List.all_map]; rfl
    generalize (xs.map fun x => D.bl (pairB ss k x)) = Q at *
    cases ha : xs.all (pairB ss k) with
    | false =>
      rw [ha] at e3
      refine ⟨.fr .non, ?_, ?_, .inl rfl⟩
      · simp only [C.g_ears_shown, C.m_ears_shown]
        generalize C.e_ears_shown_1 = E1 at *
        generalize ss.map dS = SD at *
        simp [e_fnP, ncl, noDit, Y.isLst, zx, c1, e3, -d_all]
      · simp only [C.g__law_due_7, C.m__law_due_7]
        generalize C.e__law_due_7_1 = E1 at *
        generalize ss.map dS = SD at *
        simp [e_fnP, noDit, Y.isLst, zx, c2, e3, -d_all]
    | true =>
      rw [ha] at e3
      obtain ⟨L, rfl, hp⟩ := pairs_of ha
      rw [List.length_map] at xl
      have hU : ∀ u ∈ unS ss L, u ≠ [] ∧ ∀ x ∈ u, x ∈ rgI m := fun u hu => by
        obtain ⟨p, hp', rfl⟩ := List.mem_map.mp hu
        obtain ⟨p1, p2, p3⟩ := hp p hp'
        exact un_pair hs nc p1 p2 p3
      have hU8 : ∀ u ∈ unS ss L, u.length ≤ 8 := fun u hu => by
        obtain ⟨p, hp', rfl⟩ := List.mem_map.mp hu
        obtain ⟨p1, p2, p3⟩ := hp p hp'
        have := un_len (a := (ss.getD p.1 ([], 0, 0)).1) (b := (ss.getD p.2 ([], 0, 0)).1)
        rw [(hs _ (getD_mem' p1)).st.len] at this
        unfold unP
        omega
      obtain ⟨j, s, jm, js, jn⟩ := hit_least hU
      have lU : (unS ss L).length ≤ 60 := by unfold unS; rw [List.length_map]; exact xl
      have lt := least_through_ok hm (by omega) jm js jn
      have st := due7_sets (d := .lst (L.map dPr)) hm hs xl hp
      have cu := comp_map (tm := tmName 4) (t := cYes) (e := C.e_ears_shown_2) (vs := [4]) (ws := []) (ρ := [some (.int m), some (.lst (ss.map dS)), some (.int k), some (.lst (L.map dPr)), none]) dPr (fun p => ti (unP ss p.1 p.2)) L (fun p hp' => by
        obtain ⟨p1, p2, p3⟩ := hp p hp'
        have u := unlike_in_ok hm hs p1 p2
        have u : C.g_unlike_in [.lst (ss.map dS), dPr p] = _ := u
        simp only [turnC, C.e_ears_shown_2]
        generalize ss.map dS = SD at *
        generalize dPr p = DP at *
        generalize ti (unP ss p.1 p.2) = TP at *
        simp [u])
      have eu : (L.map fun p => ti (unP ss p.1 p.2)) = (unS ss L).map ti := by unfold unS; rw [List.map_map]; rfl
      rw [eu] at cu
      have dz := fun j (hj : j ≤ 8) => due7_size (k := k) (U := unS ss L) (j := j) (d := .lst (L.map dPr)) (sd := .lst (ss.map dS)) hm hj lU hU8
      obtain ⟨ρ', lp⟩ := for_until (tm := tmName 7) (body := C.b__law_due_7_3) (vs := [7, 8]) (ws := []) (F := fun i : Nat => D.int (i : Nat)) (ρ := [some (.int m), some (.lst (ss.map dS)), some (.int k), some (.lst (L.map dPr)), some (.lst ((unS ss L).map li)), none, none, none, none, none, none, none]) (m := j) (n := m + 1) (hd := .vl (.int j)) (by omega) (fun i hi => (dz i (by omega)).1 (jn i hi)) ((dz j (by omega)).2 s js)
      refine ⟨.vl (.int j), ?_, ?_, .inr ⟨j, rfl⟩⟩
      · have zu : szOk ((unS ss L).map ti).length = true := szOk_of (by rw [List.length_map]; omega)
        simp only [C.g_ears_shown, C.m_ears_shown]
        generalize C.e_ears_shown_1 = E1 at *
        generalize C.e_ears_shown_2 = E2 at *
        generalize (unS ss L).map ti = UD at *
        generalize L.map dPr = LD at *
        generalize ss.map dS = SD at *
        simp [e_fnP, ncl, noDit, Y.isLst, zx, c1, e3, cu, lt, zu, -d_all]
      · have rk : rngOk ((m : Int) + 1) = true := rngOk_of (by omega) (by omega)
        have zk : szOk (m + 1) = true := szOk_of (by omega)
        have en : ((m : Int) + 1).toNat = m + 1 := by omega
        simp only [C.g__law_due_7, C.m__law_due_7]
        generalize C.e__law_due_7_1 = E1 at *
        generalize C.b__law_due_7_1 = B1 at *
        generalize C.b__law_due_7_3 = B3 at *
        generalize (unS ss L).map li = UD at *
        generalize L.map dPr = LD at *
        generalize ss.map dS = SD at *
        simp [e_fnP, noDit, Y.isLst, zx, c2, e3, st, rk, zk, en, lp, -d_all]
  | dit _ _ => cases hno
  | ftu _ => cases hno
  | tab _ _ => cases hno
  | arg l => exact absurd rfl (hd.na l)
  | _ =>
    refine ⟨.fr .non, ?_, ?_, .inl rfl⟩
    · simp only [C.g_ears_shown, C.m_ears_shown]
      generalize ss.map dS = SD at *
      simp [e_fnP, ncl, noDit, Y.isLst]
    · simp only [C.g__law_due_7, C.m__law_due_7]
      generalize ss.map dS = SD at *
      simp [e_fnP, noDit, Y.isLst]
end
end H

set_option Elab.async false
set_option linter.all false
set_option maxRecDepth 100000
namespace H
open PySem PySem.Spec PyProof.Rows L2 Y
def spB (ss : List SeT) (k bit : Int) (x : Nat) : Bool := decide ([((ss.getD x ([], 0, 0)).2.1 : Int), (ss.getD x ([], 0, 0)).2.2] = [k, bit])
def spL (ss : List SeT) (k bit : Int) : List Nat := (List.range ss.length).filter (spB ss k bit)
abbrev nD (L : List Nat) : D := .lst (L.map fun x : Nat => D.int (x : Nat))
section
variable {ss : List SeT} {m k : Nat}
end
end H

set_option Elab.async false
set_option linter.all false
set_option maxRecDepth 100000
namespace H
open PySem PySem.Spec PyProof.Rows L2 Y
def kyS (s : SeT) (e : List Int) : List Int := e.map fun j => s.1.getD j.toNat 0
abbrev KnT := List (List Int) × List Int
def findI : List (List Int) → List Int → List Int → Option Int
  | k' :: ks, b :: bs, k => if k' = k then some b else findI ks bs k
  | _, _, _ => none
/-- one sight more: what is known, or none where a bit is unlike -/
def stepT (k : Nat) (e : List Int) (st : KnT) (s : SeT) : Option KnT := if s.2.1 = k then (match findI st.1 st.2 (kyS s e) with
  | some z => if z = s.2.2 then some st else none
  | none => some (st.1 ++ [kyS s e], st.2 ++ [s.2.2])) else some st
def goT (k : Nat) (e : List Int) : List SeT → KnT → Option KnT
  | [], st => some st
  | s :: ss, st => match stepT k e st s with
    | some st' => goT k e ss st'
    | none => none
abbrev knD (st : KnT) : D := .dit (st.1.map kt) (st.2.map D.int)
theorem findI_eq : ∀ {ks : List (List Int)} {bs : List Int} {k : List Int}, findD (ks.map kt) (bs.map D.int) (kt k) = (findI ks bs k).map D.int
  | [], bs, k => by cases bs <;> rfl
  | a :: ks, [], k => rfl
  | a :: ks, b :: bs, k => by
    show (if kt a = kt k then some (D.int b) else findD (ks.map kt) (bs.map D.int) (kt k)) = (if a = k then some b else findI ks bs k).map D.int
    by_cases c : a = k
    · rw [if_pos c, if_pos (kt_inj.mpr c)]; rfl
    · rw [if_neg c, if_neg fun z => c (kt_inj.mp z), findI_eq]
theorem findI_no : ∀ {ks : List (List Int)} {bs : List Int} {k : List Int}, ks.length = bs.length → findI ks bs k = none → k ∉ ks
  | [], _, _, _, _ => by simp
  | a :: ks, [], _, h, _ => by simp at h
  | a :: ks, b :: bs, k, h, e => by
    unfold findI at e
    by_cases c : a = k
    · rw [if_pos c] at e; cases e
    · rw [if_neg c] at e
      intro z
      rcases List.mem_cons.mp z with z | z
      · exact c z.symm
      · exact findI_no (by simpa using h) e z
theorem stepT_len {k : Nat} {e : List Int} {st st' : KnT} {s : SeT} (h : st.1.length = st.2.length) (hs : stepT k e st s = some st') : st'.1.length = st'.2.length ∧ st'.1.length ≤ st.1.length + 1 := by
  unfold stepT at hs
  split at hs
  · split at hs
    · split at hs
      · cases hs; exact ⟨h, by omega⟩
      · cases hs
    · cases hs; exact ⟨by simp [h], by simp⟩
  · cases hs; exact ⟨h, by omega⟩
/-- x.setdefault(row, bit) != bit -/
theorem setd_ok {i : Nat} {st : KnT} {k : List Int} {b : Int} {ρ : Y.Env} (h : st.1.length = st.2.length) (hz : st.1.length ≤ 1000) (hi : i < ρ.length) (hρ : ρ[i]? = some (some (knD st))) :
    setdRes i (knD st) (ti k) (.int b) ρ = (match findI st.1 st.2 k with | some z => .ok (.vl (.int z), ρ) | none => .ok (.vl (.int b), ρ.set i (some (knD (st.1 ++ [k], st.2 ++ [b]))))) := by
  show (match keysOf (k.map D.int) with | some k => if szOk ((st.1.map kt).length + 1) = true then (match findD (st.1.map kt) (st.2.map D.int) k with | some z => R.ok (Hd.vl z, ρ) | none => R.ok (Hd.vl (.int b), ρ.set i (some (.dit (putKs (st.1.map kt) k) (putDs (st.1.map kt) (st.2.map D.int) k (.int b)))))) else .stk | none => .stk) = _
  rw [keys_ti]
  have z : szOk ((st.1.map kt).length + 1) = true := szOk_of (by rw [List.length_map]; omega)
  simp only [z, if_true, findI_eq]
  cases e : findI st.1 st.2 k with
  | some w => rfl
  | none =>
    have nk : kt k ∉ st.1.map kt := fun q => by
      obtain ⟨a, ha, e2⟩ := List.mem_map.mp q
      exact findI_no h e (kt_inj.mp e2 ▸ ha)
    show R.ok (Hd.vl (D.int b), ρ.set i (some (.dit (putKs (st.1.map kt) (kt k)) (putDs (st.1.map kt) (st.2.map D.int) (kt k) (.int b))))) = _
    unfold putKs putDs
    rw [if_neg nk, if_neg nk]
    show _ = R.ok (Hd.vl (D.int b), ρ.set i (some (.dit ((st.1 ++ [k]).map kt) ((st.2 ++ [b]).map D.int))))
    rw [List.map_append, List.map_append]
    rfl
section
variable {k m : Nat} {e : List Int} {s : SeT}
theorem read_ok (hs : OkS m s) (hm : m ≤ 20) (he : ∀ j ∈ e, j ∈ rgI m) (hl : e.length ≤ 60) : C.g_read_by [ti s.1, ti e] = .ok (.fr (ti (kyS s e))) := by
  have c := comp_map (tm := tmName 2) (t := cYes) (e := C.e_read_by_1) (vs := [2]) (ws := []) (ρ := [some (ti s.1), some (ti e), none]) D.int (fun j => D.int (s.1.getD j.toNat 0)) e fun j hj => by
    obtain ⟨h0, h1⟩ := mem_rg.mp (he j hj)
    have a := at_iN (A := s.1) (s := j.toNat) (by rw [hs.st.len]; omega)
    rw [show ((j.toNat : Nat) : Int) = j by omega] at a
    have ix : ixD (ti s.1) (.int j) = .ok (.int (s.1.getD j.toNat 0)) := by
      show (match atI (s.1.map D.int) j with | some d => Y.R.ok d | none => Y.R.stk) = _
      rw [a]
    simp only [turnC, C.e_read_by_1]
    generalize s.1.getD j.toNat 0 = v at *
    generalize ti s.1 = T at *
    generalize ti e = TE at *
    simp [ix]
  have e2 : (e.map fun j => D.int (s.1.getD j.toNat 0)) = (kyS s e).map D.int := by unfold kyS; rw [List.map_map]; rfl
  rw [e2] at c
  have z : szOk e.length = true := szOk_of (by omega)
  have z2 : szOk (kyS s e).length = true := szOk_of (by unfold kyS; rw [List.length_map]; omega)
  have z3 : szOk ((kyS s e).map D.int).length = true := by rw [List.length_map]; exact z2
  have q3 : ti e = .tup (e.map D.int) := rfl
  show _ = Y.R.ok (Hd.fr (.tup ((kyS s e).map D.int)))
  rw [q3] at c ⊢
  simp only [C.g_read_by, C.m_read_by]
  generalize (kyS s e).map D.int = X at *
  generalize C.e_read_by_1 = E1 at *
  generalize ti s.1 = T at *
  have z4 : szOk (e.map D.int).length = true := by rw [List.length_map]; exact z
  generalize e.map D.int = ED at *
  simp [e_fnP, z4, c, z3]
theorem bits_turn {st : KnT} {sd : D} (hs : OkS m s) (hm : m ≤ 20) (he : ∀ j ∈ e, j ∈ rgI m) (hl : e.length ≤ 60) (hn : st.1.length = st.2.length) (hz : st.1.length ≤ 1000) :
    (∀ st', stepT k e st s = some st' → turnF (tmTup [4, 5, 6]) C.b_bits_by_1 [4, 5, 6] (dS s) [some sd, some (.int k), some (ti e), some (knD st), none, none, none] = .ok (.nx, [some sd, some (.int k), some (ti e), some (knD st'), none, none, none])) ∧
    (stepT k e st s = none → ∃ ρ', turnF (tmTup [4, 5, 6]) C.b_bits_by_1 [4, 5, 6] (dS s) [some sd, some (.int k), some (ti e), some (knD st), none, none, none] = .ok (.rt (.fr .non), ρ')) := by
  have rd := read_ok hs hm he hl
  have sd1 := setd_ok (i := 3) (st := st) (k := kyS s e) (b := s.2.2) (ρ := [some sd, some (.int k), some (ti e), some (knD st), some (ti s.1), some (.int s.2.1), some (.int s.2.2)]) hn hz (by simp) rfl
  have eq : eqD (.int (s.2.1 : Nat)) (.int (k : Nat)) = .ok (.bl (decide (s.2.1 = k))) := by
    rw [eqD_int]
    exact congrArg (fun q => Y.R.ok (D.bl q)) (decide_eq_decide.mpr Int.ofNat_inj)
  obtain ⟨A, u, b⟩ := s
  dsimp only at *
  have da : ∀ x y z w : Option D, dicAt 3 [x, y, z, some (knD st), some (ti A), some (.int u), some (.int b)] = .ok (knD st) := fun _ _ _ _ => rfl
  unfold stepT
  dsimp only
  have ed : dS (A, u, b) = .tup [ti A, .int u, .int b] := rfl
  rw [ed]
  by_cases c : u = k
  · rw [decide_eq_true c] at eq
    rw [if_pos c]
    cases hf : findI st.1 st.2 (kyS (A, u, b) e) with
    | some z =>
      rw [hf] at sd1
      dsimp only at sd1 ⊢
      have nb : neD (.int z) (.int b) = .ok (.bl (!decide (z = b))) := neD_int
      by_cases cz : z = b
      · rw [if_pos cz]
        rw [decide_eq_true cz] at nb
        refine ⟨fun st' h => ?_, fun h => by cases h⟩
        cases h
        simp only [turnF, C.b_bits_by_1]
        simp only [knD] at da sd1 ⊢
        generalize st.1.map kt = KS at *
        generalize st.2.map D.int = DS at *
        generalize ti (kyS (A, u, b) e) = TK at *
        generalize ti A = TA at *
        generalize ti e = TE at *
        simp [eq, rd, da, sd1, nb, -eqD_int, -neD_int]
      · rw [if_neg cz]
        rw [decide_eq_false cz] at nb
        refine ⟨fun st' h => (by cases h), fun _ => ?_⟩
        refine ⟨[some sd, some (.int k), some (ti e), some (knD st), some (ti A), some (.int u), some (.int b)], ?_⟩
        simp only [turnF, C.b_bits_by_1]
        simp only [knD] at da sd1 ⊢
        generalize st.1.map kt = KS at *
        generalize st.2.map D.int = DS at *
        generalize ti (kyS (A, u, b) e) = TK at *
        generalize ti A = TA at *
        generalize ti e = TE at *
        simp [eq, rd, da, sd1, nb, -eqD_int, -neD_int]
    | none =>
      rw [hf] at sd1
      dsimp only at sd1 ⊢
      have nb : neD (.int b) (.int b) = .ok (.bl false) := neD_refl (n := 0) trivial
      refine ⟨fun st' h => ?_, fun h => by cases h⟩
      cases h
      simp only [turnF, C.b_bits_by_1]
      generalize knD (st.1 ++ [kyS (A, u, b) e], st.2 ++ [b]) = KD2 at *
      simp only [knD] at da sd1 ⊢
      generalize st.1.map kt = KS at *
      generalize st.2.map D.int = DS at *
      generalize ti (kyS (A, u, b) e) = TK at *
      generalize ti A = TA at *
      generalize ti e = TE at *
      simp [eq, rd, da, sd1, nb, -eqD_int, -neD_int]
  · rw [decide_eq_false c] at eq
    rw [if_neg c]
    refine ⟨fun st' h => ?_, fun h => by cases h⟩
    cases h
    simp only [turnF, C.b_bits_by_1]
    generalize knD st = KD at *
    generalize ti A = TA at *
    generalize ti e = TE at *
    simp [eq, -eqD_int]
end
end H

set_option Elab.async false
set_option linter.all false
set_option maxRecDepth 100000
namespace H
open PySem PySem.Spec PyProof.Rows L2 Y
theorem go_loop {tm : GM} {body : SM} {vs : List Nat} {E : KnT → Y.Env} {hd : Hd} {k : Nat} {e : List Int} : ∀ (ss : List SeT) (st : KnT), st.1.length = st.2.length → st.1.length + ss.length ≤ 1000 →
    (∀ s ∈ ss, ∀ st : KnT, st.1.length = st.2.length → st.1.length ≤ 1000 → (∀ st', stepT k e st s = some st' → turnF tm body vs (dS s) (E st) = .ok (.nx, E st')) ∧ (stepT k e st s = none → ∃ ρ', turnF tm body vs (dS s) (E st) = .ok (.rt hd, ρ'))) →
    (∀ st', goT k e ss st = some st' → forL tm body vs [] (ss.map dS) (E st) = .ok (.nx, E st')) ∧ (goT k e ss st = none → ∃ ρ', forL tm body vs [] (ss.map dS) (E st) = .ok (.rt hd, ρ'))
  | [], st, _, _, _ => ⟨fun st' h => by cases h; rfl, fun h => by cases h⟩
  | s :: ss, st, hl, hz, h => by
    obtain ⟨t1, t2⟩ := h s (by simp) st hl (by omega)
    unfold goT
    cases q : stepT k e st s with
    | some st1 =>
      obtain ⟨l1, l2⟩ := stepT_len hl q
      have ih := go_loop (tm := tm) (body := body) (vs := vs) (E := E) (hd := hd) ss st1 l1 (by simp at hz; omega) fun s hs => h s (by simp [hs])
      have t := t1 st1 q
      refine ⟨fun st' h' => ?_, fun h' => ?_⟩
      · exact for_cons t (fun _ z => by cases z) (ih.1 st' h')
      · obtain ⟨ρ', r⟩ := ih.2 h'
        exact ⟨ρ', for_cons t (fun _ z => by cases z) r⟩
    | none =>
      obtain ⟨ρ', t⟩ := t2 q
      exact ⟨fun st' h' => (by cases h'), fun _ => ⟨ρ', for_rt t⟩⟩
def telB (ss : List SeT) (k : Nat) (e : List Int) : Bool := (goT k e ss ([], [])).isSome
section
variable {k m : Nat} {e : List Int} {ss : List SeT}
theorem bits_by_ok (hs : ∀ s ∈ ss, OkS m s) (hm : m ≤ 20) (he : ∀ j ∈ e, j ∈ rgI m) (hl : e.length ≤ 60) (hz : ss.length ≤ 500) :
    ∃ d, C.g_bits_by [.lst (ss.map dS), .int k, ti e] = .ok (.fr d) ∧ (Y.isNon d = !telB ss k e) := by
  have lp := go_loop (tm := tmTup [4, 5, 6]) (body := C.b_bits_by_1) (vs := [4, 5, 6]) (E := fun st => [some (.lst (ss.map dS)), some (.int k), some (ti e), some (knD st), none, none, none]) (hd := .fr .non) (k := k) (e := e) ss ([], []) rfl (by simp; omega) fun s hs' st h1 h2 => bits_turn (hs s hs') hm he hl h1 h2
  have zs : szOk (ss.map dS).length = true := szOk_of (by rw [List.length_map]; omega)
  unfold telB
  cases q : goT k e ss ([], []) with
  | some st =>
    have l := lp.1 st q
    have l : forL (tmTup [4, 5, 6]) C.b_bits_by_1 [4, 5, 6] [] (ss.map dS) [some (.lst (ss.map dS)), some (.int k), some (ti e), some (.dit [] []), none, none, none] = _ := l
    refine ⟨knD st, ?_, rfl⟩
    simp only [C.g_bits_by, C.m_bits_by]
    generalize C.b_bits_by_1 = B at *
    generalize ti e = TE at *
    generalize ss.map dS = SD at *
    simp only [knD] at l ⊢
    generalize st.1.map kt = KS at *
    generalize st.2.map D.int = DS at *
    simp [e_fnP, sDicNew, zs, l]
  | none =>
    obtain ⟨ρ', l⟩ := lp.2 q
    have l : forL (tmTup [4, 5, 6]) C.b_bits_by_1 [4, 5, 6] [] (ss.map dS) [some (.lst (ss.map dS)), some (.int k), some (ti e), some (.dit [] []), none, none, none] = _ := l
    refine ⟨.non, ?_, rfl⟩
    simp only [C.g_bits_by, C.m_bits_by]
    generalize C.b_bits_by_1 = B at *
    generalize ti e = TE at *
    generalize ss.map dS = SD at *
    simp [e_fnP, sDicNew, zs, l]
end
end H

set_option Elab.async false
set_option linter.all false
set_option maxRecDepth 100000
namespace H
open PySem PySem.Spec PyProof.Rows L2 Y
def telO (ss : List SeT) (k : Nat) (e : List Int) : Option (List Int) := if telB ss k e = true then some e else none
def firO (ss : List SeT) (k m sz : Nat) : Option (List Int) := (pkI sz (rgI m)).findSome? (telO ss k)
def fewO (ss : List SeT) (k m : Nat) : Option (List Int) := (List.range (min m 4 + 1)).findSome? (firO ss k m)
section
variable {k m : Nat} {ss : List SeT}
theorem pk_in {sz : Nat} {e : List Int} (h : e ∈ pkI sz (rgI m)) : (∀ j ∈ e, j ∈ rgI m) ∧ e.length = sz := ⟨((pk_mem rg_rise).mp h).2.2, ((pk_mem rg_rise).mp h).2.1⟩
theorem few_size {sz : Nat} (hs : ∀ s ∈ ss, OkS m s) (hm : m ≤ 8) (hsz : sz ≤ 8) (hz : ss.length ≤ 500) :
    (firO ss k m sz = none → turnF (tmName 3) C.b_fewest_ears_2 [3, 4] (.int sz) [some (.int m), some (.lst (ss.map dS)), some (.int k), none, none] = .ok (.nx, [some (.int m), some (.lst (ss.map dS)), some (.int k), none, none])) ∧
    (∀ e, firO ss k m sz = some e → ∃ ρ', turnF (tmName 3) C.b_fewest_ears_2 [3, 4] (.int sz) [some (.int m), some (.lst (ss.map dS)), some (.int k), none, none] = .ok (.rt (.vl (ti e)), ρ')) := by
  have rg := rgB_of (n := m) (by omega)
  have er : D.lst (rgD 0 m) = li (rgI m) := by
    rw [rgD_nat]
    unfold rgI
    show D.lst _ = D.lst _
    rw [List.map_map]
    rfl
  have pk := picked8_ok hm hsz
  have pl := pk8_len hm hsz
  have zp : szOk ((pkI sz (rgI m)).map ti).length = true := szOk_of (by rw [List.length_map]; omega)
  have inn := for_first (tm := tmName 4) (body := C.b_fewest_ears_1) (vs := [4]) (ws := []) ti (telO ss k) (fun e => Hd.vl (ti e)) (pkI sz (rgI m)) [some (.int m), some (.lst (ss.map dS)), some (.int k), some (.int sz), none] fun e he => by
    obtain ⟨h1, h2⟩ := pk_in he
    obtain ⟨d, b, hd⟩ := bits_by_ok (k := k) (e := e) hs (by omega) h1 (by omega) hz
    unfold telO
    cases c : telB ss k e with
    | true =>
      rw [c] at hd
      have hd : Y.isNon d = false := hd
      refine ⟨fun z => by simp at z, fun b z => ?_⟩
      simp at z
      subst z
      refine ⟨[some (.int m), some (.lst (ss.map dS)), some (.int k), some (.int sz), some (ti e)], ?_⟩
      simp only [turnF, C.b_fewest_ears_1]
      generalize ss.map dS = SD at *
      generalize ti e = TE at *
      simp [b, hd]
    | false =>
      rw [c] at hd
      have hd : Y.isNon d = true := hd
      refine ⟨fun _ => ?_, fun b z => by simp at z⟩
      simp only [turnF, C.b_fewest_ears_1]
      generalize ss.map dS = SD at *
      generalize ti e = TE at *
      simp [b, hd]
  unfold firO
  refine ⟨fun e => ?_, fun s e => ?_⟩
  · have i1 := inn.1 e
    simp only [turnF, C.b_fewest_ears_2]
    generalize C.b_fewest_ears_1 = B1 at *
    generalize (pkI sz (rgI m)).map ti = PL at *
    generalize li (rgI m) = LI at *
    generalize ss.map dS = RD at *
    simp [rg, er, pk, zp, i1]
  · obtain ⟨ρ', i1⟩ := inn.2 s e
    refine ⟨ρ', ?_⟩
    simp only [turnF, C.b_fewest_ears_2]
    generalize C.b_fewest_ears_1 = B1 at *
    generalize (pkI sz (rgI m)).map ti = PL at *
    generalize li (rgI m) = LI at *
    generalize ss.map dS = RD at *
    simp [rg, er, pk, zp, i1]
theorem few_ears_ok (hs : ∀ s ∈ ss, OkS m s) (nc : NoCl ss) (hm : m ≤ 8) (hz : ss.length ≤ 200) :
    (∀ e, fewO ss k m = some e → C.g_fewest_ears [.int m, .lst (ss.map dS), .int k] = .ok (.vl (ti e))) ∧ (fewO ss k m = none → C.g_fewest_ears [.int m, .lst (ss.map dS), .int k] = .er "TooMany" []) := by
  have ncl := no_clash_ok (m := m) (by omega) hz hs nc
  have out := for_first (tm := tmName 3) (body := C.b_fewest_ears_2) (vs := [3, 4]) (ws := []) (fun i : Nat => D.int (i : Nat)) (firO ss k m) (fun e => Hd.vl (ti e)) (List.range (min m 4 + 1)) [some (.int m), some (.lst (ss.map dS)), some (.int k), none, none] fun sz hsz => by
    have hsz := List.mem_range.mp hsz
    exact few_size hs hm (by omega) (by omega)
  obtain ⟨M, hM⟩ : ∃ M : Nat, min m 4 = M := ⟨_, rfl⟩
  have mn : min2D [.int m, .int 4] = .ok (.int M) := by
    rw [d_min]
    exact congrArg (fun q => Y.R.ok (D.int q)) (by omega)
  rw [hM] at out
  unfold fewO
  rw [hM]
  have rk : rngOk ((M : Int) + 1) = true := rngOk_of (by omega) (by omega)
  have zk : szOk (M + 1) = true := szOk_of (by omega)
  have en : ((M : Int) + 1).toNat = M + 1 := by omega
  refine ⟨fun e h => ?_, fun h => ?_⟩
  · obtain ⟨ρ', o⟩ := out.2 e h
    simp only [C.g_fewest_ears, C.m_fewest_ears]
    generalize C.b_fewest_ears_2 = B at *
    generalize ss.map dS = RD at *
    generalize ti e = TE at *
    simp [e_fnP, ncl, mn, rk, zk, en, o, -d_min]
  · have o := out.1 h
    simp only [C.g_fewest_ears, C.m_fewest_ears]
    generalize C.b_fewest_ears_2 = B at *
    generalize ss.map dS = RD at *
    simp [e_fnP, ncl, mn, rk, zk, en, o, -d_min]
end
end H

set_option Elab.async false
set_option linter.all false
set_option maxRecDepth 100000
namespace H
open PySem PySem.Spec PyProof.Rows L2 Y
theorem findI_app : ∀ {ks : List (List Int)} {bs : List Int} {a k : List Int} {b : Int}, ks.length = bs.length → findI (ks ++ [a]) (bs ++ [b]) k = (findI ks bs k).or (if a = k then some b else none)
  | [], [], a, k, b, _ => by
    show (if a = k then some b else findI [] [] k) = _
    by_cases c : a = k
    · rw [if_pos c, if_pos c]; rfl
    · rw [if_neg c, if_neg c]; rfl
  | [], _ :: _, _, _, _, h => by simp at h
  | _ :: _, [], _, _, _, h => by simp at h
  | x :: ks, y :: bs, a, k, b, h => by
    show (if x = k then some y else findI (ks ++ [a]) (bs ++ [b]) k) = (if x = k then some y else findI ks bs k).or _
    by_cases c : x = k
    · rw [if_pos c, if_pos c]; rfl
    · rw [if_neg c, if_neg c, findI_app (by simpa using h)]
/-- some of e is where they are unlike -/
def mtB (e u : List Int) : Bool := e.any fun x => decide (x ∈ u)
theorem un_sym {a b : List Int} (h : a.length = b.length) : unI a b = unI b a := by
  unfold unI
  rw [h]
  refine congrArg (List.map _) (List.filter_congr fun x _ => ?_)
  exact congrArg (!·) (decide_eq_decide.mpr ⟨fun h => h.symm, fun h => h.symm⟩)
theorem pB_sym {ss : List SeT} {k i j : Nat} (h : pB ss k i j = true) : pB ss k j i = true := by
  unfold pB at *
  simp only [Bool.and_eq_true, decide_eq_true_eq, Bool.not_eq_true', decide_eq_false_iff_not] at h ⊢
  exact ⟨h.2.1, h.1, fun z => h.2.2 z.symm⟩
theorem pB_irr {ss : List SeT} {k i : Nat} : pB ss k i i = false := by
  unfold pB
  simp
def lsB (S : List (List Int)) (u : List Int) : Bool := !S.any fun v => !decide (v = u) && v.all fun x => decide (x ∈ u)
theorem rise_sublist : ∀ {b a : List Int}, RiseI a → RiseI b → (∀ x ∈ a, x ∈ b) → a.Sublist b
  | [], [], _, _, _ => List.Sublist.slnil
  | [], x :: a, _, _, h => by have := h x (by simp); cases this
  | y :: b, [], _, _, _ => List.nil_sublist _
  | y :: b, x :: a, ha, hb, h => by
    obtain ⟨a1, a2⟩ := List.pairwise_cons.mp ha
    obtain ⟨b1, b2⟩ := List.pairwise_cons.mp hb
    by_cases c : x = y
    · subst c
      refine List.Sublist.cons_cons _ (rise_sublist a2 b2 fun z hz => ?_)
      have := a1 z hz
      rcases List.mem_cons.mp (h z (by simp [hz])) with e | e
      · omega
      · exact e
    · have hx : x ∈ b := (List.mem_cons.mp (h x (by simp))).resolve_left c
      have := b1 x hx
      refine List.Sublist.cons _ (rise_sublist ha b2 fun z hz => ?_)
      rcases List.mem_cons.mp hz with e | e
      · rw [e]; exact hx
      · have := a1 z e
        rcases List.mem_cons.mp (h z hz) with q | q
        · omega
        · exact q
theorem rise_subL {a b : List Int} (ha : RiseI a) (hb : RiseI b) (h : ∀ x ∈ a, x ∈ b) : a.length ≤ b.length ∧ (a.length = b.length → a = b) :=
  ⟨(rise_sublist ha hb h).length_le, fun hl => (rise_sublist ha hb h).eq_of_length hl⟩
theorem un_rise {a b : List Int} : RiseI (unI a b) := by
  unfold unI RiseI
  refine List.Pairwise.map _ (fun x y h => ?_) (List.Pairwise.sublist List.filter_sublist List.pairwise_lt_range)
  omega
theorem least_in {S : List (List Int)} (hS : ∀ v ∈ S, RiseI v) : ∀ (n : Nat) {u : List Int}, u.length ≤ n → u ∈ S → ∃ v ∈ S, lsB S v = true ∧ ∀ x ∈ v, x ∈ u
  | n, u, hn, hu => by
    cases q : lsB S u with
    | true => exact ⟨u, hu, q, fun x hx => hx⟩
    | false =>
      unfold lsB at q
      rw [Bool.not_eq_false'] at q
      obtain ⟨v, hv, h⟩ := List.any_eq_true.mp q
      rw [Bool.and_eq_true, Bool.not_eq_true', decide_eq_false_iff_not, List.all_eq_true] at h
      have sub : ∀ x ∈ v, x ∈ u := fun x hx => of_decide_eq_true (h.2 x hx)
      obtain ⟨l1, l2⟩ := rise_subL (hS v hv) (hS u hu) sub
      have : v.length < u.length := by
        rcases Nat.lt_or_ge v.length u.length with c | c
        · exact c
        · exact absurd (l2 (by omega)) h.1
      cases n with
      | zero => omega
      | succ n =>
        obtain ⟨w, w1, w2, w3⟩ := least_in hS n (by omega) hv
        exact ⟨w, w1, w2, fun x hx => sub x (w3 x hx)⟩
theorem mt_mono {e u v : List Int} (h : ∀ x ∈ v, x ∈ u) (hm : mtB e v = true) : mtB e u = true := by
  unfold mtB at *
  obtain ⟨x, hx, h2⟩ := List.any_eq_true.mp hm
  exact List.any_eq_true.mpr ⟨x, hx, decide_eq_true (h x (of_decide_eq_true h2))⟩
end H

set_option Elab.async false
set_option linter.all false
set_option maxRecDepth 100000
namespace H
open PySem PySem.Spec PyProof.Rows L2 Y
theorem pp_lst {xs : List D} (hl : xs.length ≤ 60) (h : ∀ x ∈ xs, Th x) : Pp (.lst xs) := ⟨rfl, fun l e => (by cases e), fun ys e => by cases e; exact ⟨hl, h⟩⟩
theorem th_dPr {p : Nat × Nat} : Th (dPr p) := th_tup (by simp) fun x hx => by
  simp only [List.mem_cons, List.not_mem_nil, or_false] at hx
  rcases hx with rfl | rfl <;> exact ⟨rfl, fit_int⟩
end H

set_option Elab.async false
set_option linter.all false
set_option maxRecDepth 100000
namespace H
open PySem PySem.Spec PyProof.Rows L2 Y
def unQ (ss : List SeT) (p : Nat × Nat) : List Int := unP ss p.1 p.2
abbrev knL (ss : List SeT) (L : List (Nat × Nat)) : D := .dit ((L.map (unQ ss)).map kt) (L.map dPr)
def stepPr (ss : List SeT) (k : Nat) (L : List (Nat × Nat)) (i j : Nat) : List (Nat × Nat) := if pB ss k i j = true then (if unP ss i j ∈ L.map (unQ ss) then L else L ++ [(i, j)]) else L
theorem setdP_ok {i : Nat} {KS : List (List Int)} {ds : List D} {u : List Int} {d : D} {ρ : Y.Env} (hl : KS.length = ds.length) (hz : KS.length ≤ 1000000) :
    (u ∈ KS → ∃ z, setdRes i (.dit (KS.map kt) ds) (ti u) d ρ = .ok (.vl z, ρ)) ∧ (u ∉ KS → setdRes i (.dit (KS.map kt) ds) (ti u) d ρ = .ok (.vl d, ρ.set i (some (.dit ((KS ++ [u]).map kt) (ds ++ [d]))))) := by
  have z : szOk ((KS.map kt).length + 1) = true := szOk_of (by rw [List.length_map]; omega)
  have fk := find_kt (L := KS) (ds := ds) (t := u) hl
  have e : setdRes i (.dit (KS.map kt) ds) (ti u) d ρ = (match findD (KS.map kt) ds (kt u) with | some z => R.ok (Hd.vl z, ρ) | none => R.ok (Hd.vl d, ρ.set i (some (.dit (putKs (KS.map kt) (kt u)) (putDs (KS.map kt) ds (kt u) d))))) := by
    show (match keysOf (u.map D.int) with | some k => if szOk ((KS.map kt).length + 1) = true then (match findD (KS.map kt) ds k with | some z => R.ok (Hd.vl z, ρ) | none => R.ok (Hd.vl d, ρ.set i (some (.dit (putKs (KS.map kt) k) (putDs (KS.map kt) ds k d))))) else .stk | none => .stk) = _
    rw [keys_ti]
    simp only [z, if_true]
  rw [e]
  refine ⟨fun h => ?_, fun h => ?_⟩
  · rw [decide_eq_true h] at fk
    obtain ⟨w, ew⟩ := Option.isSome_iff_exists.mp fk
    rw [ew]
    exact ⟨w, rfl⟩
  · rw [decide_eq_false h] at fk
    have ew : findD (KS.map kt) ds (kt u) = none := by
      cases q : findD (KS.map kt) ds (kt u) with
      | none => rfl
      | some w => rw [q] at fk; cases fk
    rw [ew]
    have nk : kt u ∉ KS.map kt := fun q => by
      obtain ⟨a, ha, e2⟩ := List.mem_map.mp q
      exact h (kt_inj.mp e2 ▸ ha)
    show R.ok (Hd.vl d, ρ.set i (some (.dit (putKs (KS.map kt) (kt u)) (putDs (KS.map kt) ds (kt u) d)))) = _
    unfold putKs putDs
    rw [if_neg nk, if_neg nk, List.map_append]
    rfl
section
variable {ss : List SeT} {m k : Nat}
theorem paper_turn {L : List (Nat × Nat)} {i j : Nat} (hm : m ≤ 8) (hs : ∀ s ∈ ss, OkS m s) (hz : ss.length ≤ 1000) (hi : i < ss.length) (hj : j < ss.length) (hL : L.length ≤ 1000000) :
    turnF (tmName 5) C.b_ear_paper_1 [5] (.int j) [some (.int m), some (.lst (ss.map dS)), some (.int k), some (knL ss L), some (.int i), none, none, none] = .ok (.nx, [some (.int m), some (.lst (ss.map dS)), some (.int k), some (knL ss (stepPr ss k L i j)), some (.int i), none, none, none]) := by
  have ip := is_pair_ok (ss := ss) (k := k) (d := dPr (i, j)) hz th_dPr
  have ip : C.g_is_pair [.lst (ss.map dS), .int k, .tup [.int i, .int j]] = .ok (.fr (.bl (pairB ss k (.tup [.int i, .int j])))) := ip
  have e : pairB ss k (.tup [.int i, .int j]) = pB ss k i j := by
    rw [pairB_two, decide_eq_true (by omega), decide_eq_true (by omega)]
    rfl
  rw [e] at ip
  have un := unlike_in_ok hm hs hi hj
  have sd := fun ρ => setdP_ok (i := 3) (KS := L.map (unQ ss)) (ds := L.map dPr) (u := unP ss i j) (d := .tup [.int i, .int j]) (ρ := ρ) (by simp) (by rw [List.length_map]; exact hL)
  unfold stepPr
  cases q : pB ss k i j with
  | false =>
    rw [q] at ip
    rw [if_neg Bool.false_ne_true]
    simp only [turnF, C.b_ear_paper_1]
    generalize knL ss L = KL at *
    generalize ss.map dS = SD at *
    simp [ip]
  | true =>
    rw [q] at ip
    rw [if_pos rfl]
    by_cases c : unP ss i j ∈ L.map (unQ ss)
    · rw [if_pos c]
      obtain ⟨z, s1⟩ := (sd [some (.int m), some (.lst (ss.map dS)), some (.int k), some (knL ss L), some (.int i), some (.int j), none, none]).1 c
      simp only [turnF, C.b_ear_paper_1]
      simp only [knL] at s1 ⊢
      generalize (L.map (unQ ss)).map kt = KS at *
      generalize L.map dPr = DS at *
      generalize ti (unP ss i j) = TU at *
      generalize ss.map dS = SD at *
      simp [ip, un, s1]
    · rw [if_neg c]
      have s1 := (sd [some (.int m), some (.lst (ss.map dS)), some (.int k), some (knL ss L), some (.int i), some (.int j), none, none]).2 c
      have e2 : knL ss (L ++ [(i, j)]) = .dit ((L.map (unQ ss) ++ [unP ss i j]).map kt) (L.map dPr ++ [.tup [.int i, .int j]]) := by
        have a1 : (L ++ [(i, j)]).map (unQ ss) = L.map (unQ ss) ++ [unP ss i j] := by rw [List.map_append]; rfl
        have a2 : (L ++ [(i, j)]).map dPr = L.map dPr ++ [.tup [.int i, .int j]] := by rw [List.map_append]; rfl
        show D.dit (((L ++ [(i, j)]).map (unQ ss)).map kt) ((L ++ [(i, j)]).map dPr) = _
        rw [a1, a2]
      rw [e2]
      simp only [turnF, C.b_ear_paper_1]
      generalize D.dit ((L.map (unQ ss) ++ [unP ss i j]).map kt) (L.map dPr ++ [.tup [.int i, .int j]]) = K2 at *
      simp only [knL] at s1 ⊢
      generalize (L.map (unQ ss)).map kt = KS at *
      generalize L.map dPr = DS at *
      generalize ti (unP ss i j) = TU at *
      generalize ss.map dS = SD at *
      simp [ip, un, s1]
structure PInv (ss : List SeT) (k : Nat) (L : List (Nat × Nat)) (Q : Nat → Nat → Prop) : Prop where
  ok : ∀ p ∈ L, p.1 < ss.length ∧ p.2 < ss.length ∧ pB ss k p.1 p.2 = true
  all : ∀ i j, Q i j → pB ss k i j = true → unP ss i j ∈ L.map (unQ ss)
theorem PInv.step {L : List (Nat × Nat)} {Q Q' : Nat → Nat → Prop} {i j : Nat} (h : PInv ss k L Q) (hi : i < ss.length) (hj : j < ss.length) (hq : ∀ a b, Q' a b → Q a b ∨ (a = i ∧ b = j)) : PInv ss k (stepPr ss k L i j) Q' ∧ (stepPr ss k L i j).length ≤ L.length + 1 := by
  unfold stepPr
  split
  · rename_i hp
    split
    · rename_i c
      refine ⟨⟨h.ok, fun a b q hb => ?_⟩, by omega⟩
      rcases hq a b q with q | ⟨rfl, rfl⟩
      · exact h.all a b q hb
      · exact c
    · refine ⟨⟨fun p hp' => ?_, fun a b q hb => ?_⟩, by simp⟩
      · rcases List.mem_append.mp hp' with e | e
        · exact h.ok p e
        · rw [List.mem_singleton.mp e]; exact ⟨hi, hj, hp⟩
      · rw [List.map_append]
        rcases hq a b q with q | ⟨rfl, rfl⟩
        · exact List.mem_append_left _ (h.all a b q hb)
        · exact List.mem_append_right _ (List.mem_singleton.mpr rfl)
  · rename_i hp
    refine ⟨⟨h.ok, fun a b q hb => ?_⟩, by omega⟩
    rcases hq a b q with q | ⟨rfl, rfl⟩
    · exact h.all a b q hb
    · exact absurd hb hp
theorem paper_outer {L : List (Nat × Nat)} {i : Nat} (hm : m ≤ 8) (hs : ∀ s ∈ ss, OkS m s) (hz : ss.length ≤ 200) (hi : i < ss.length) (hL : L.length ≤ i * 200) (h : PInv ss k L fun a b => a < i ∧ a < b ∧ b < ss.length) :
    ∃ L', turnF (tmName 4) C.b_ear_paper_2 [4, 5] (.int i) [some (.int m), some (.lst (ss.map dS)), some (.int k), some (knL ss L), none, none, none, none] = .ok (.nx, [some (.int m), some (.lst (ss.map dS)), some (.int k), some (knL ss L'), none, none, none, none]) ∧ L'.length ≤ (i + 1) * 200 ∧ PInv ss k L' fun a b => a < i + 1 ∧ a < b ∧ b < ss.length := by
  obtain ⟨ρ', lp, L', rfl, l1, h1⟩ := for_inx (tm := tmName 5) (body := C.b_ear_paper_1) (vs := [5]) (ws := []) (fun t : Nat => D.int (((i : Int) + 1) + (t : Nat))) (fun t ρ => ∃ L', ρ = [some (.int m), some (.lst (ss.map dS)), some (.int k), some (knL ss L'), some (.int i), none, none, none] ∧ L'.length ≤ i * 200 + t ∧ PInv ss k L' fun a b => (a < i ∧ a < b ∧ b < ss.length) ∨ (a = i ∧ a < b ∧ b < i + 1 + t)) (ss.length - (i + 1))
    [some (.int m), some (.lst (ss.map dS)), some (.int k), some (knL ss L), some (.int i), none, none, none] ⟨L, rfl, by omega, ⟨h.ok, fun a b q => h.all a b (by rcases q with q | q <;> omega)⟩⟩ fun t ρ ht ⟨L1, e, l1, h1⟩ => by
      subst e
      obtain ⟨j, hj⟩ : ∃ j : Nat, ((i : Int) + 1) + (t : Nat) = j ∧ j = i + 1 + t := ⟨i + 1 + t, by omega, rfl⟩
      have jl : j < ss.length := by omega
      have tn := paper_turn (k := k) (L := L1) (i := i) (j := j) hm hs (by omega) hi jl (by omega)
      rw [hj.1]
      obtain ⟨p1, p2⟩ := h1.step (Q' := fun a b => (a < i ∧ a < b ∧ b < ss.length) ∨ (a = i ∧ a < b ∧ b < i + 1 + (t + 1))) hi jl fun a b q => by
        rcases q with q | q
        · exact .inl (.inl q)
        · by_cases c : b = j
          · exact .inr ⟨q.1, c⟩
          · exact .inl (.inr (by omega))
      exact ⟨_, tn, ⟨_, rfl, by omega, p1⟩, by simp⟩
  have r2 : rng2D [.int ((i : Int) + 1), .int (ss.length : Nat)] = .ok ((List.range (ss.length - (i + 1))).map fun t => D.int (((i : Int) + 1) + (t : Nat))) := by
    rw [d_rng2, if_pos, show ((ss.length : Int) - ((i : Int) + 1)).toNat = ss.length - (i + 1) by omega]
    rw [rngOk_of (by omega) (by omega), rngOk_of (by omega) (by omega)]; rfl
  have z : szOk ((List.range (ss.length - (i + 1))).map fun t => D.int (((i : Int) + 1) + (t : Nat))).length = true := szOk_of (by rw [List.length_map, List.length_range]; omega)
  have ln : lenD [.lst (ss.map dS)] = .ok (.int ss.length) := by rw [d_lenL, List.length_map]
  refine ⟨L', ?_, by omega, ⟨h1.ok, fun a b q => h1.all a b (by omega)⟩⟩
  simp only [turnF, C.b_ear_paper_2]
  generalize C.b_ear_paper_1 = B at *
  generalize ((List.range (ss.length - (i + 1))).map fun t => D.int (((i : Int) + 1) + (t : Nat))) = RR at *
  generalize knL ss L = K1 at *
  generalize knL ss L' = K2 at *
  generalize ss.map dS = SD at *
  simp [ln, r2, z, lp, -d_rng2, -d_lenL]
theorem is_least_ok {S : List (List Int)} {u : List Int} (hS : S.length ≤ 1000000) (hv : ∀ v ∈ S, v.length ≤ 1000) : C.g_is_least [.lst (S.map ti), ti u] = .ok (.fr (.bl (lsB S u))) := by
  have c2 := comp_map (tm := tmName 2) (t := cYes) (e := C.e_is_least_2) (vs := [2]) (ws := []) (ρ := [some (.lst (S.map ti)), some (ti u), none, none]) ti (fun v => D.bl (!decide (v = u) && v.all fun x => decide (x ∈ u))) S fun v hv' => by
    have c1 := comp_map (tm := tmName 3) (t := cYes) (e := C.e_is_least_1) (vs := [3]) (ws := []) (ρ := [some (.lst (S.map ti)), some (ti u), some (ti v), none]) D.int (fun x => D.bl (decide (x ∈ u))) v fun x _ => by
      have i := in_tI (x := x) (xs := u)
      simp only [turnC, C.e_is_least_1]
      generalize S.map ti = LR at *
      generalize ti u = TR at *
      generalize ti v = TS at *
      simp [i]
    have e2 : (v.map fun x => D.bl (decide (x ∈ u))) = (v.map fun x => decide (x ∈ u)).map D.bl := by rw [List.map_map]; rfl
    have al : allD [.lst (v.map fun x => D.bl (decide (x ∈ u)))] = .ok (.bl (v.all fun x => decide (x ∈ u))) := by rw [e2, d_all, List.all_map]; rfl
    have ne : neD (ti v) (ti u) = .ok (.bl (!decide (v = u))) := by
      rw [neD_of (n := 1) fit_tupI fit_tupI, eqP_tup, eqPs_ints]
    have zv : szOk (v.map D.int).length = true := szOk_of (by rw [List.length_map]; have := hv v hv'; omega)
    have q3 : ti v = .tup (v.map D.int) := rfl
    rw [q3] at c1 ne ⊢
    simp only [turnC, C.e_is_least_2]
    generalize (v.map fun x => D.bl (decide (x ∈ u))) = Q at *
    generalize (v.all fun x => decide (x ∈ u)) = q at *
    generalize decide (v = u) = w at *
    generalize C.e_is_least_1 = E1 at *
    generalize v.map D.int = VD at *
    generalize S.map ti = LR at *
    generalize ti u = TR at *
    cases w <;> simp [ne, zv, c1, al]
  have e2 : (S.map fun v => D.bl (!decide (v = u) && v.all fun x => decide (x ∈ u))) = (S.map fun v => !decide (v = u) && v.all fun x => decide (x ∈ u)).map D.bl := by rw [List.map_map]; rfl
  have an : anyD [.lst (S.map fun v => D.bl (!decide (v = u) && v.all fun x => decide (x ∈ u)))] = .ok (.bl (S.any fun v => !decide (v = u) && v.all fun x => decide (x ∈ u))) := by rw [e2, d_any, List.any_map]; rfl
  have zs : szOk (S.map ti).length = true := szOk_of (by rw [List.length_map]; omega)
  unfold lsB
  simp only [C.g_is_least, C.m_is_least]
  generalize (S.map fun v => D.bl (!decide (v = u) && v.all fun x => decide (x ∈ u))) = Q at *
  generalize (S.any fun v => !decide (v = u) && v.all fun x => decide (x ∈ u)) = q at *
  generalize C.e_is_least_2 = E1 at *
  generalize S.map ti = LR at *
  generalize ti u = TR at *
  simp [e_fnP, zs, c2, an]
end
end H

set_option Elab.async false
set_option linter.all false
set_option maxRecDepth 100000
namespace H
open PySem PySem.Spec PyProof.Rows L2 Y
theorem keyD_kt {t : List Int} : (kt t).map keyD = t.map D.int := by
  show (t.map Sum.inl).map keyD = _
  rw [List.map_map]
  rfl
def itE (ss : List SeT) (p : Nat × Nat) : D := .tup [ti (unQ ss p), dPr p]
theorem items_knL {ss : List SeT} {L : List (Nat × Nat)} : dicItems (knL ss L) = .ok (L.map (itE ss)) := by
  show R.ok ((((L.map (unQ ss)).map kt).zip (L.map dPr)).map fun p => D.tup [.tup (p.1.map keyD), p.2]) = _
  refine congrArg Y.R.ok ?_
  induction L with
  | nil => rfl
  | cons p L ih =>
    rw [List.map_cons, List.map_cons, List.map_cons, List.zip_cons_cons, List.map_cons, ih, List.map_cons]
    refine congrArg (· :: _) ?_
    show D.tup [.tup ((kt (unQ ss p)).map keyD), dPr p] = _
    rw [keyD_kt]
    rfl
theorem list_knL {ss : List SeT} {L : List (Nat × Nat)} : listKD [knL ss L] = .ok (.lst ((L.map (unQ ss)).map ti)) := by
  show R.ok (D.lst (((L.map (unQ ss)).map kt).map fun k => .tup (k.map keyD))) = _
  rw [List.map_map]
  refine congrArg (fun q => Y.R.ok (D.lst q)) (List.map_congr_left fun u _ => ?_)
  show D.tup ((kt u).map keyD) = _
  rw [keyD_kt]
def pI (p : Nat × Nat) : List Int := [(p.1 : Int), (p.2 : Int)]
theorem dPr_ti {p : Nat × Nat} : dPr p = ti (pI p) := rfl
section
variable {ss : List SeT} {m k : Nat}
theorem ear_paper_ok (hm : m ≤ 8) (hs : ∀ s ∈ ss, OkS m s) (nc : NoCl ss) (hz : ss.length ≤ 200) :
    ∃ PL : List (Nat × Nat), C.g_ear_paper [.int m, .lst (ss.map dS), .int k] = .ok (.fr (.lst (PL.map dPr))) ∧ PL.length ≤ 40000 ∧ (∀ p ∈ PL, p.1 < ss.length ∧ p.2 < ss.length ∧ pB ss k p.1 p.2 = true) ∧
      ∀ e : List Int, (∀ p ∈ PL, mtB e (unQ ss p) = true) → ∀ i j, i < ss.length → j < ss.length → pB ss k i j = true → mtB e (unP ss i j) = true := by
  have ncl := no_clash_ok (m := m) (by omega) hz hs nc
  obtain ⟨ρ', lp, L, rfl, l1, hI⟩ := for_inx (tm := tmName 4) (body := C.b_ear_paper_2) (vs := [4, 5]) (ws := []) (fun i : Nat => D.int (i : Nat)) (fun i ρ => ∃ L, ρ = [some (.int m), some (.lst (ss.map dS)), some (.int k), some (knL ss L), none, none, none, none] ∧ L.length ≤ i * 200 ∧ PInv ss k L fun a b => a < i ∧ a < b ∧ b < ss.length) ss.length
    [some (.int m), some (.lst (ss.map dS)), some (.int k), some (.dit [] []), none, none, none, none] ⟨[], rfl, by simp, ⟨by simp, fun a b q => by omega⟩⟩ fun i ρ hi ⟨L, e, l1, h⟩ => by
      subst e
      obtain ⟨L', t, l2, h2⟩ := paper_outer (k := k) (L := L) (i := i) hm hs hz hi l1 h
      exact ⟨_, t, ⟨L', rfl, l2, h2⟩, by simp⟩
  have ll : L.length ≤ 40000 := by
    have : ss.length * 200 ≤ 200 * 200 := Nat.mul_le_mul_right _ hz
    omega
  have un8 : ∀ p ∈ L, (unQ ss p).length ≤ 8 := fun p hp => by
    have := un_len (a := (ss.getD p.1 ([], 0, 0)).1) (b := (ss.getD p.2 ([], 0, 0)).1)
    rw [(hs _ (getD_mem' (hI.ok p hp).1)).st.len] at this
    unfold unQ unP
    omega
  obtain ⟨S, hS⟩ : ∃ S, L.map (unQ ss) = S := ⟨_, rfl⟩
  have s8 : ∀ v ∈ S, v.length ≤ 1000 := fun v hv => by
    rw [← hS] at hv
    obtain ⟨p, hp, rfl⟩ := List.mem_map.mp hv
    have := un8 p hp
    omega
  have sl : S.length ≤ 1000000 := by rw [← hS, List.length_map]; omega
  have it := items_knL (ss := ss) (L := L)
  have lk := list_knL (ss := ss) (L := L)
  rw [hS] at lk
  have cf := comp_filter (tm := tmTup [6, 7]) (t := C.t_ear_paper_1) (e := C.e_ear_paper_1) (vs := [6, 7]) (ws := []) (ρ := [some (.int m), some (.lst (ss.map dS)), some (.int k), some (knL ss L), none, none, none, none]) (itE ss) (fun p => lsB S (unQ ss p)) dPr L fun p hp => by
    have il := is_least_ok (S := S) (u := unQ ss p) sl s8
    have ie : itE ss p = .tup [ti (unQ ss p), dPr p] := rfl
    rw [ie]
    generalize lsB S (unQ ss p) = q at *
    generalize ti (unQ ss p) = TU at *
    generalize dPr p = DP at *
    simp only [turnC, C.t_ear_paper_1, C.e_ear_paper_1]
    simp only [knL] at lk ⊢
    generalize (L.map (unQ ss)).map kt = KS at *
    generalize L.map dPr = DS at *
    generalize S.map ti = ST at *
    generalize ss.map dS = SD at *
    cases q <;> simp [lk, il, -d_listK]
  obtain ⟨P, hP⟩ : ∃ P, L.filter (fun p => lsB S (unQ ss p)) = P := ⟨_, rfl⟩
  rw [hP] at cf
  have pl : P.length ≤ L.length := by rw [← hP]; exact List.length_filter_le _ _
  -- sorted
  obtain ⟨PL, hPL⟩ : ∃ PL, P.mergeSort (fun a b => !ltL (pI b) (pI a)) = PL := ⟨_, rfl⟩
  have pp : PL.Perm P := by rw [← hPL]; exact List.mergeSort_perm _ _
  have e1 : P.map dPr = (P.map pI).map ti := by rw [List.map_map]; rfl
  have so := sort_lti (xs := P.map pI) fun x hx z => by
    obtain ⟨p, _, rfl⟩ := List.mem_map.mp hx
    cases z
  have e2 : sortL (P.map pI) = PL.map pI := by
    unfold sortL
    rw [← hPL]
    exact (List.map_mergeSort (r := fun a b => !ltL (pI b) (pI a)) (s := fun a b => !ltL b a) (f := pI) (l := P) fun a _ b _ => rfl).symm
  rw [e2] at so
  have so : sortD [.lst (P.map dPr)] = .ok (.lst (PL.map dPr)) := by
    rw [e1]
    refine so.trans ?_
    show R.ok (D.lst ((PL.map pI).map ti)) = _
    rw [List.map_map]
    rfl
  refine ⟨PL, ?_, by rw [pp.length_eq]; omega, fun p hp => ?_, fun e he i j hi hj hb => ?_⟩
  · have ln : lenD [.lst (ss.map dS)] = .ok (.int ss.length) := by rw [d_lenL, List.length_map]
    have rk : rngOk (ss.length : Nat) = true := rngOk_of (by omega) (by omega)
    have zk : szOk ss.length = true := szOk_of (by omega)
    have zi : szOk (L.map (itE ss)).length = true := szOk_of (by rw [List.length_map]; omega)
    simp only [C.g_ear_paper, C.m_ear_paper]
    simp only [knL] at lp cf it
    generalize C.b_ear_paper_2 = B at *
    generalize C.t_ear_paper_1 = T1 at *
    generalize C.e_ear_paper_1 = E1 at *
    generalize L.map (itE ss) = IL at *
    generalize (L.map (unQ ss)).map kt = KS at *
    generalize L.map dPr = DS at *
    generalize P.map dPr = PD at *
    generalize PL.map dPr = PLD at *
    generalize ss.map dS = SD at *
    simp [e_fnP, ncl, ln, rk, zk, lp, ditAt, it, zi, cf, so, -d_itemsT, -d_lenL]
  · have hp := pp.mem_iff.mp hp
    rw [← hP] at hp
    exact hI.ok p (List.mem_filter.mp hp).1
  · have inS : unP ss i j ∈ S := by
      rw [← hS]
      rcases Nat.lt_trichotomy i j with c | c | c
      · exact hI.all i j ⟨hi, c, hj⟩ hb
      · subst c
        rw [pB_irr] at hb; cases hb
      · have := hI.all j i ⟨hj, c, hi⟩ (pB_sym hb)
        have e3 : unP ss i j = unP ss j i := un_sym (by rw [(hs _ (getD_mem' hi)).st.len, (hs _ (getD_mem' hj)).st.len])
        rw [e3]
        exact this
    obtain ⟨v, hv, h1, h2⟩ := least_in (S := S) (fun v hv => by
      rw [← hS] at hv
      obtain ⟨p, _, rfl⟩ := List.mem_map.mp hv
      exact un_rise) _ (Nat.le_refl _) inS
    rw [← hS] at hv
    obtain ⟨p, hp, rfl⟩ := List.mem_map.mp hv
    refine mt_mono h2 (he p (pp.mem_iff.mpr ?_))
    rw [← hP]
    exact List.mem_filter.mpr ⟨hp, h1⟩
end
end H

set_option Elab.async false
set_option linter.all false
set_option maxRecDepth 100000
namespace H
open PySem PySem.Spec PyProof.Rows L2 Y
section
variable {ss : List SeT} {m k : Nat}
end
end H

set_option Elab.async false
set_option linter.all false
set_option maxRecDepth 100000
namespace H
open PySem PySem.Spec PyProof.Rows L2 Y
section
variable {ss : List SeT} {m k : Nat} {PL : List (Nat × Nat)}
end
end H

set_option Elab.async false
set_option linter.all false
set_option maxRecDepth 100000
namespace H
open PySem PySem.Spec PyProof.Rows L2 Y
theorem get_anyK {ks : List (List Key)} {ds : List D} {t : List Int} : getDic (.dit ks ds) (ti t) = .ok (findD ks ds (kt t)) := by
  show (match keysOf (t.map D.int) with | some k => R.ok (findD ks ds k) | none => .stk) = _
  rw [keys_ti]
def hitS (k : Nat) (e r : List Int) (s : SeT) : Bool := decide (s.2.1 = k) && decide (kyS s e = r)
def seenV (ss : List SeT) (k : Nat) (e r : List Int) : Int := match ss.find? (hitS k e r) with | some s => s.2.2 | none => 0
def ruleS (ss : List SeT) (k : Nat) (e : List Int) : RuleT := (e, (stands e.length).map (seenV ss k e))
theorem go_find {k : Nat} {e r : List Int} : ∀ {ss : List SeT} {st st' : KnT}, st.1.length = st.2.length → goT k e ss st = some st' →
    findI st'.1 st'.2 r = (findI st.1 st.2 r).or ((ss.find? (hitS k e r)).map fun s => s.2.2)
  | [], st, st', _, h => by
    cases h
    cases findI st.1 st.2 r <;> rfl
  | s :: ss, st, st', hl, h => by
    unfold goT stepT at h
    rw [List.find?_cons]
    by_cases c : s.2.1 = k
    · rw [if_pos c] at h
      cases hf : findI st.1 st.2 (kyS s e) with
      | some z =>
        rw [hf] at h
        dsimp only at h
        by_cases cz : z = s.2.2
        · rw [if_pos cz] at h
          have ih := go_find hl h (r := r)
          by_cases q : kyS s e = r
          · have hh : hitS k e r s = true := by unfold hitS; rw [decide_eq_true c, decide_eq_true q]; rfl
            rw [hh]
            rw [ih, ← q, hf]
            rfl
          · have hh : hitS k e r s = false := by unfold hitS; rw [decide_eq_false q, Bool.and_false]
            rw [hh]
            exact ih
        · rw [if_neg cz] at h
          cases h
      | none =>
        rw [hf] at h
        dsimp only at h
        have ih := go_find (r := r) (st := (st.1 ++ [kyS s e], st.2 ++ [s.2.2])) (by simp [hl]) h
        rw [ih]
        dsimp only
        rw [findI_app hl]
        by_cases q : kyS s e = r
        · have hh : hitS k e r s = true := by unfold hitS; rw [decide_eq_true c, decide_eq_true q]; rfl
          rw [hh, if_pos q, ← q, hf]
          rfl
        · have hh : hitS k e r s = false := by unfold hitS; rw [decide_eq_false q, Bool.and_false]
          rw [hh, if_neg q]
          cases findI st.1 st.2 r <;> rfl
    · rw [if_neg c] at h
      have hh : hitS k e r s = false := by unfold hitS; rw [decide_eq_false c, Bool.false_and]
      rw [hh]
      exact go_find hl h
section
variable {k m : Nat} {e : List Int} {ss : List SeT}
theorem bits_by_get (hs : ∀ s ∈ ss, OkS m s) (hm : m ≤ 20) (he : ∀ j ∈ e, j ∈ rgI m) (hl : e.length ≤ 60) (hz : ss.length ≤ 500) (ht : telB ss k e = true) :
    ∃ st : KnT, C.g_bits_by [.lst (ss.map dS), .int k, ti e] = .ok (.fr (knD st)) ∧ ∀ r, (findI st.1 st.2 r).getD 0 = seenV ss k e r := by
  have lp := go_loop (tm := tmTup [4, 5, 6]) (body := C.b_bits_by_1) (vs := [4, 5, 6]) (E := fun st => [some (.lst (ss.map dS)), some (.int k), some (ti e), some (knD st), none, none, none]) (hd := .fr .non) (k := k) (e := e) ss ([], []) rfl (by simp; omega) fun s hs' st h1 h2 => bits_turn (hs s hs') hm he hl h1 h2
  have zs : szOk (ss.map dS).length = true := szOk_of (by rw [List.length_map]; omega)
  unfold telB at ht
  cases q : goT k e ss ([], []) with
  | none => rw [q] at ht; cases ht
  | some st =>
    have l := lp.1 st q
    have l : forL (tmTup [4, 5, 6]) C.b_bits_by_1 [4, 5, 6] [] (ss.map dS) [some (.lst (ss.map dS)), some (.int k), some (ti e), some (.dit [] []), none, none, none] = _ := l
    refine ⟨st, ?_, fun r => ?_⟩
    · simp only [C.g_bits_by, C.m_bits_by]
      generalize C.b_bits_by_1 = B at *
      generalize ti e = TE at *
      generalize ss.map dS = SD at *
      simp only [knD] at l ⊢
      generalize st.1.map kt = KS at *
      generalize st.2.map D.int = DS at *
      simp [e_fnP, sDicNew, zs, l]
    · rw [go_find rfl q]
      unfold seenV
      show (Option.or none _).getD 0 = _
      cases ss.find? (hitS k e r) <;> rfl
theorem rule_seen_ok (hs : ∀ s ∈ ss, OkS m s) (nc : NoCl ss) (hm : m ≤ 8) (hz : ss.length ≤ 200) (hf : fewO ss k m = some e) (he : ∀ j ∈ e, j ∈ rgI m) (h4 : e.length ≤ 4) (ht : telB ss k e = true) :
    C.g_rule_seen [.int m, .lst (ss.map dS), .int k] = .ok (.fr (dRule (ruleS ss k e))) := by
  have f := (few_ears_ok (k := k) hs nc hm hz).1 e hf
  obtain ⟨st, b, g⟩ := bits_by_get hs (by omega) he (by omega) (by omega) ht
  have so := stands_of_ok (m := e.length) (by omega)
  have sl := stands_len e.length
  have p2 : 2 ^ e.length ≤ 2 ^ 4 := Nat.pow_le_pow_right (by omega) h4
  have c := comp_map (tm := tmName 5) (t := cYes) (e := C.e_rule_seen_1) (vs := [5]) (ws := []) (ρ := [some (.int m), some (.lst (ss.map dS)), some (.int k), some (ti e), some (knD st), none]) ti (fun r => D.int (seenV ss k e r)) (stands e.length) fun r hr => by
    have g1 := get_anyK (ks := st.1.map kt) (ds := st.2.map D.int) (t := r)
    rw [findI_eq] at g1
    have gr : ((findI st.1 st.2 r).map D.int).getD (.int 0) = .int (seenV ss k e r) := by
      rw [← g r]
      cases findI st.1 st.2 r <;> rfl
    generalize (findI st.1 st.2 r).map D.int = o at *
    simp only [turnC, C.e_rule_seen_1]
    simp only [knD]
    generalize seenV ss k e r = v at *
    generalize st.1.map kt = KS at *
    generalize st.2.map D.int = DS at *
    have du : dicUp (D.dit KS DS) = .ok () := rfl
    generalize ti r = T at *
    generalize ti e = TE at *
    generalize ss.map dS = SD at *
    simp [g1, gr, du]
  have e2 : ((stands e.length).map fun r => D.int (seenV ss k e r)) = ((stands e.length).map (seenV ss k e)).map D.int := by rw [List.map_map]; rfl
  rw [e2] at c
  have zs : szOk ((stands e.length).map ti).length = true := szOk_of (by rw [List.length_map]; omega)
  have zt : szOk (((stands e.length).map (seenV ss k e)).map D.int).length = true := szOk_of (by rw [List.length_map, List.length_map]; omega)
  have le : lenD [ti e] = .ok (.int e.length) := by rw [d_lenT, List.length_map]
  have so : C.g_stands_of [.int e.length] = .ok (.vl (.lst ((stands e.length).map ti))) := so
  show _ = Y.R.ok (Hd.fr (.tup [ti e, .tup (((stands e.length).map (seenV ss k e)).map D.int)]))
  simp only [C.g_rule_seen, C.m_rule_seen]
  generalize ((stands e.length).map (seenV ss k e)).map D.int = TT at *
  generalize (stands e.length).map ti = SL at *
  generalize C.e_rule_seen_1 = E1 at *
  generalize knD st = KD at *
  generalize ti e = TE at *
  generalize ss.map dS = SD at *
  simp [e_fnP, f, b, le, so, zs, c, zt, szOk_of]
end
end H

set_option Elab.async false
set_option linter.all false
set_option maxRecDepth 100000
namespace H
open PySem PySem.Spec PyProof.Rows L2 Y
section
variable {k m : Nat} {e : List Int} {ss : List SeT}
end
end H

set_option Elab.async false
set_option linter.all false
set_option maxRecDepth 100000
namespace H
open PySem PySem.Spec PyProof.Rows L2 Y
section
variable {r : RuleT}
end
section
variable {ns : List RuleT} {most k : Nat} {ss : List SeT}
end
end H

set_option Elab.async false
set_option linter.all false
set_option maxRecDepth 100000
namespace H
open PySem PySem.Spec PyProof.Rows L2 Y
section
variable {ns : List RuleT} {most k : Nat} {ss : List SeT}
end
end H

set_option Elab.async false
set_option linter.all false
set_option maxRecDepth 100000
set_option maxHeartbeats 2000000
namespace H
open PySem PySem.Spec PyProof.Rows L2 Y
def sAt (ss : List SeT) (i : Nat) : SeT := ss.getD i ([], 0, 0)
def clB (ss : List SeT) (i j : Nat) : Bool := (decide ((sAt ss i).1 = (sAt ss j).1) && decide ((sAt ss i).2.1 = (sAt ss j).2.1)) && !decide ((sAt ss i).2.2 = (sAt ss j).2.2)
def inJ (ss : List SeT) (i : Nat) : List Nat := (List.range (ss.length - (i + 1))).map fun k => i + 1 + k
def inF (ss : List SeT) (i : Nat) (j : Nat) : Option (Nat × Nat) := if clB ss i j = true then some (i, j) else none
def inC (ss : List SeT) (i : Nat) : Option (Nat × Nat) := (inJ ss i).findSome? (inF ss i)
def firstC (ss : List SeT) : Option (Nat × Nat) := (List.range ss.length).findSome? (inC ss)
def cD : Option (Nat × Nat) → D
  | none => .non
  | some p => .tup [.int (p.1 : Nat), .int (p.2 : Nat)]
theorem mem_inJ {ss : List SeT} {i j : Nat} : j ∈ inJ ss i ↔ i < j ∧ j < ss.length := by
  unfold inJ
  rw [List.mem_map]
  constructor
  · rintro ⟨k, hk, rfl⟩
    have := List.mem_range.mp hk
    omega
  · rintro ⟨h1, h2⟩
    exact ⟨j - (i + 1), List.mem_range.mpr (by omega), by omega⟩
theorem sAt_get {ss : List SeT} {i : Nat} (h : i < ss.length) : sAt ss i = ss[i] := by
  unfold sAt
  rw [List.getD_eq_getElem?_getD, List.getElem?_eq_getElem h]; rfl
theorem nocl_of {ss : List SeT} (h : firstC ss = none) : NoCl ss := by
  have key : ∀ i j, i < j → j < ss.length → (sAt ss i).1 = (sAt ss j).1 → (sAt ss i).2.1 = (sAt ss j).2.1 → (sAt ss i).2.2 = (sAt ss j).2.2 := fun i j hij hj e1 e2 => by
    have h1 := List.findSome?_eq_none_iff.mp h i (List.mem_range.mpr (by omega))
    have h2 := List.findSome?_eq_none_iff.mp h1 j (mem_inJ.mpr ⟨hij, hj⟩)
    unfold inF at h2
    by_cases c : (sAt ss i).2.2 = (sAt ss j).2.2
    · exact c
    · have : clB ss i j = true := by
        unfold clB
        rw [decide_eq_true e1, decide_eq_true e2, decide_eq_false c]; rfl
      rw [if_pos this] at h2; cases h2
  intro s hs t ht e1 e2
  obtain ⟨i, hi, rfl⟩ := List.mem_iff_getElem.mp hs
  obtain ⟨j, hj, rfl⟩ := List.mem_iff_getElem.mp ht
  rw [← sAt_get hi, ← sAt_get hj] at *
  rcases Nat.lt_trichotomy i j with q | q | q
  · exact key i j q hj e1 e2
  · subst q; rfl
  · exact (key j i q hi e1.symm e2.symm).symm
theorem items_J {ss : List SeT} {i : Nat} (hi : i < ss.length) : ((List.range (((ss.length : Int) - ((i : Int) + 1))).toNat).map fun k => D.int ((i : Int) + 1 + (k : Nat))) = (inJ ss i).map fun j : Nat => D.int (j : Nat) := by
  unfold inJ
  rw [List.map_map, show (((ss.length : Int) - ((i : Int) + 1))).toNat = ss.length - (i + 1) by omega]
  refine List.map_congr_left fun k _ => ?_
  show D.int _ = D.int _
  congr 1
section
variable {ss : List SeT} {m i j : Nat}
theorem clash_facts (hi : i < ss.length) (hj : j < ss.length) : ∃ DS1 DS2 P1 P2 T1 T2 : D, ∃ k1 k2 b1 b2 : Int,
    ixD (.lst (ss.map dS)) (.int (i : Nat)) = .ok DS1 ∧ ixD (.lst (ss.map dS)) (.int (j : Nat)) = .ok DS2 ∧
    sliceD DS1 none (some 2) = .ok P1 ∧ sliceD DS2 none (some 2) = .ok P2 ∧ eqD P1 P2 = .ok (.bl (decide ((sAt ss i).1 = (sAt ss j).1) && decide ((sAt ss i).2.1 = (sAt ss j).2.1))) ∧
    ixD DS1 (.int 0) = .ok T1 ∧ ixD DS2 (.int 0) = .ok T2 ∧ eqD T1 T2 = .ok (.bl (decide ((sAt ss i).1 = (sAt ss j).1))) ∧
    ixD DS1 (.int 1) = .ok (.int k1) ∧ ixD DS2 (.int 1) = .ok (.int k2) ∧ eqD (.int k1) (.int k2) = .ok (.bl (decide ((sAt ss i).2.1 = (sAt ss j).2.1))) ∧
    ixD DS1 (.int 2) = .ok (.int b1) ∧ ixD DS2 (.int 2) = .ok (.int b2) ∧ neD (.int b1) (.int b2) = .ok (.bl (!decide ((sAt ss i).2.2 = (sAt ss j).2.2))) := by
  have a1 := at_ss hi
  have a2 := at_ss hj
  rw [← sAt_get hi] at a1
  rw [← sAt_get hj] at a2
  generalize sAt ss i = s at *
  generalize sAt ss j = t at *
  obtain ⟨sa, sk, sb⟩ := s
  obtain ⟨ta, tk, tb⟩ := t
  refine ⟨dS (sa, sk, sb), dS (ta, tk, tb), .tup [ti sa, .int sk], .tup [ti ta, .int tk], ti sa, ti ta, sk, tk, sb, tb, ?_, ?_, ?_, ?_, ?_, rfl, rfl, ?_, rfl, rfl, ?_, rfl, rfl, ?_⟩
  · show (match atI (ss.map dS) (i : Int) with | some d => Y.R.ok d | none => Y.R.stk) = _
    rw [a1]
  · show (match atI (ss.map dS) (j : Int) with | some d => Y.R.ok d | none => Y.R.stk) = _
    rw [a2]
  · have := cut_hi (ds := [ti sa, .int (sk : Int), .int sb]) (k := 2)
    show (if szOk (Y.cutD [ti sa, .int (sk : Int), .int sb] none (some 2)).length = true then Y.R.ok (D.tup (Y.cutD [ti sa, .int (sk : Int), .int sb] none (some 2))) else .stk) = _
    rw [show Y.cutD [ti sa, .int (sk : Int), .int sb] none (some 2) = [ti sa, .int sk] from this]
    rfl
  · have := cut_hi (ds := [ti ta, .int (tk : Int), .int tb]) (k := 2)
    show (if szOk (Y.cutD [ti ta, .int (tk : Int), .int tb] none (some 2)).length = true then Y.R.ok (D.tup (Y.cutD [ti ta, .int (tk : Int), .int tb] none (some 2))) else .stk) = _
    rw [show Y.cutD [ti ta, .int (tk : Int), .int tb] none (some 2) = [ti ta, .int tk] from this]
    rfl
  · have ft : ∀ (x : List Int) (y : Int), Fit 2 (.tup [ti x, .int y]) := fun x y d hd => by
      simp only [List.mem_cons, List.not_mem_nil, or_false] at hd
      rcases hd with rfl | rfl
      · exact fit_tupI
      · exact fit_int
    rw [eqD_of (ft _ _) (ft _ _), eqP_tup]
    refine congrArg (fun q => Y.R.ok (D.bl q)) ?_
    show (eqP (ti sa) (ti ta) && (eqP (.int sk) (.int tk) && true)) = _
    rw [eqP_tup, eqPs_ints, eqP_int, Bool.and_true]
    congr 1
    rw [Bool.eq_iff_iff, beq_iff_eq, decide_eq_true_eq]
    exact Int.ofNat_inj
  · exact eq_ti
  · rw [eqD_of (n := 0) fit_int fit_int, eqP_int]
    congr 2
    rw [Bool.eq_iff_iff, beq_iff_eq, decide_eq_true_eq]
    exact Int.ofNat_inj
  · exact neD_int
theorem clash_turn (hi : i < ss.length) (hj : j < ss.length) : (inF ss i j = none → turnF (tmName 3) C.b_first_clash_1 [3] (.int (j : Nat)) [some (.int m), some (.lst (ss.map dS)), some (.int i), none] = .ok (.nx, [some (.int m), some (.lst (ss.map dS)), some (.int i), none])) ∧
    (∀ b, inF ss i j = some b → ∃ ρ', turnF (tmName 3) C.b_first_clash_1 [3] (.int (j : Nat)) [some (.int m), some (.lst (ss.map dS)), some (.int i), none] = .ok (.rt (.fr (cD (some b))), ρ')) := by
  obtain ⟨DS1, DS2, P1, P2, T1, T2, k1, k2, b1, b2, x1, x2, s1, s2, eq, _, _, _, _, _, _, i1, i2, nb⟩ := clash_facts hi hj
  unfold inF
  by_cases c : clB ss i j = true
  · rw [if_pos c]
    refine ⟨fun z => (nomatch z), fun b z => ?_⟩
    cases z
    unfold clB at c
    rw [Bool.and_eq_true] at c
    rw [c.1] at eq
    rw [c.2] at nb
    refine ⟨[some (.int m), some (.lst (ss.map dS)), some (.int i), some (.int j)], ?_⟩
    simp only [turnF, C.b_first_clash_1, cD]
    generalize ss.map dS = SD at *
    simp [x1, x2, s1, s2, eq, i1, i2, nb, -neD_int]
  · rw [if_neg c]
    refine ⟨fun _ => ?_, fun b z => (nomatch z)⟩
    have c : clB ss i j = false := by cases q : clB ss i j with | false => rfl | true => exact absurd q c
    unfold clB at c
    rw [Bool.and_eq_false_iff] at c
    simp only [turnF, C.b_first_clash_1]
    generalize ss.map dS = SD at *
    rcases c with c | c
    · rw [c] at eq
      simp [x1, x2, s1, s2, eq, i1, i2, nb, -neD_int]
    · rw [c] at nb
      generalize (decide ((sAt ss i).1 = (sAt ss j).1) && decide ((sAt ss i).2.1 = (sAt ss j).2.1)) = q at *
      cases q <;> simp [x1, x2, s1, s2, eq, i1, i2, nb, -neD_int]
theorem lfirst_turn (hi : i < ss.length) (hj : j < ss.length) : (inF ss i j = none → turnF (tmName 2) C.b__law_first_1 [2] (.int (j : Nat)) [some (.lst (ss.map dS)), some (.int i), none] = .ok (.nx, [some (.lst (ss.map dS)), some (.int i), none])) ∧
    (∀ b, inF ss i j = some b → ∃ ρ', turnF (tmName 2) C.b__law_first_1 [2] (.int (j : Nat)) [some (.lst (ss.map dS)), some (.int i), none] = .ok (.rt (.fr (cD (some b))), ρ')) := by
  obtain ⟨DS1, DS2, P1, P2, T1, T2, k1, k2, b1, b2, x1, x2, _, _, _, t1, t2, et, n1, n2, en, i1, i2, nb⟩ := clash_facts hi hj
  unfold inF
  by_cases c : clB ss i j = true
  · rw [if_pos c]
    refine ⟨fun z => (nomatch z), fun b z => ?_⟩
    cases z
    unfold clB at c
    rw [Bool.and_eq_true, Bool.and_eq_true] at c
    rw [c.1.1] at et
    rw [c.1.2] at en
    rw [c.2] at nb
    refine ⟨[some (.lst (ss.map dS)), some (.int i), some (.int j)], ?_⟩
    simp only [turnF, C.b__law_first_1, cD]
    generalize ss.map dS = SD at *
    simp [x1, x2, t1, t2, et, n1, n2, en, i1, i2, nb, -neD_int, -eqD_int]
  · rw [if_neg c]
    refine ⟨fun _ => ?_, fun b z => (nomatch z)⟩
    have c : clB ss i j = false := by cases q : clB ss i j with | false => rfl | true => exact absurd q c
    unfold clB at c
    rw [Bool.and_eq_false_iff, Bool.and_eq_false_iff] at c
    simp only [turnF, C.b__law_first_1]
    generalize ss.map dS = SD at *
    generalize decide ((sAt ss i).1 = (sAt ss j).1) = qa at *
    generalize decide ((sAt ss i).2.1 = (sAt ss j).2.1) = qb at *
    rcases c with (c | c) | c
    · rw [c] at et
      simp [x1, x2, t1, t2, et, -neD_int, -eqD_int]
    · rw [c] at en
      cases qa <;> simp [x1, x2, t1, t2, et, n1, n2, en, -neD_int, -eqD_int]
    · rw [c] at nb
      cases qa <;> cases qb <;> simp [x1, x2, t1, t2, et, n1, n2, en, i1, i2, nb, -neD_int, -eqD_int]
end
section
variable {ss : List SeT} {m : Nat}
theorem first_clash_any (hm : m ≤ 20) (hl : ss.length ≤ 200) (hs : ∀ s ∈ ss, OkS m s) : C.g_first_clash [.int m, .lst (ss.map dS)] = .ok (.fr (cD (firstC ss))) := by
  have sn := sn_sights (m := m) (ss := ss) (by omega) (by omega) hs
  have ns := need_seen_any (m := (m : Int)) sn
  rw [seen_ok hl hs, if_pos rfl] at ns
  have lp := for_first (tm := tmName 2) (body := C.b_first_clash_2) (vs := [2, 3]) (ws := []) (fun k : Nat => D.int (k : Nat)) (inC ss) (fun b => Hd.fr (cD (some b))) (List.range ss.length) [some (.int m), some (.lst (ss.map dS)), none, none] fun i hi => by
    have hi := List.mem_range.mp hi
    have inn := for_first (tm := tmName 3) (body := C.b_first_clash_1) (vs := [3]) (ws := []) (fun k : Nat => D.int (k : Nat)) (inF ss i) (fun b => Hd.fr (cD (some b))) (inJ ss i) [some (.int m), some (.lst (ss.map dS)), some (.int i), none] fun j hj => clash_turn hi (mem_inJ.mp hj).2
    have r2 : rng2D [.int ((i : Int) + 1), .int (ss.length : Nat)] = .ok ((inJ ss i).map fun j : Nat => D.int (j : Nat)) := by
      rw [d_rng2, if_pos, items_J hi]
      rw [rngOk_of (by omega) (by omega), rngOk_of (by omega) (by omega)]; rfl
    have z : szOk ((inJ ss i).map fun j : Nat => D.int (j : Nat)).length = true := szOk_of (by unfold inJ; rw [List.length_map, List.length_map, List.length_range]; omega)
    have ln : lenD [.lst (ss.map dS)] = .ok (.int ss.length) := by rw [d_lenL, List.length_map]
    refine ⟨fun e => ?_, fun b e => ?_⟩
    · have inn := inn.1 e
      simp only [turnF, C.b_first_clash_2]
      generalize C.b_first_clash_1 = B at *
      generalize ((inJ ss i).map fun j : Nat => D.int (j : Nat)) = RR at *
      generalize ss.map dS = SD at *
      simp [ln, r2, z, inn, -d_rng2, -d_lenL]
    · obtain ⟨ρ', inn⟩ := inn.2 b e
      refine ⟨ρ', ?_⟩
      simp only [turnF, C.b_first_clash_2]
      generalize C.b_first_clash_1 = B at *
      generalize ((inJ ss i).map fun j : Nat => D.int (j : Nat)) = RR at *
      generalize ss.map dS = SD at *
      simp [ln, r2, z, inn, -d_rng2, -d_lenL]
  have ln : lenD [.lst (ss.map dS)] = .ok (.int ss.length) := by rw [d_lenL, List.length_map]
  have rk : rngOk (ss.length : Nat) = true := rngOk_of (by omega) (by omega)
  have zk : szOk ss.length = true := szOk_of (by omega)
  cases e : firstC ss with
  | none =>
    have lp := lp.1 e
    simp only [C.g_first_clash, C.m_first_clash, cD]
    generalize C.b_first_clash_2 = B at *
    generalize ss.map dS = SD at *
    simp [e_fnP, ns, ln, rk, zk, lp, -d_lenL]
  | some b =>
    obtain ⟨ρ', lp⟩ := lp.2 b e
    simp only [C.g_first_clash, C.m_first_clash]
    generalize cD (some b) = CB at *
    generalize C.b_first_clash_2 = B at *
    generalize ss.map dS = SD at *
    simp [e_fnP, ns, ln, rk, zk, lp, -d_lenL]
theorem law_first_any (hl : ss.length ≤ 200) : C.g__law_first [.lst (ss.map dS)] = .ok (.fr (cD (firstC ss))) := by
  have lp := for_first (tm := tmName 1) (body := C.b__law_first_2) (vs := [1, 2]) (ws := []) (fun k : Nat => D.int (k : Nat)) (inC ss) (fun b => Hd.fr (cD (some b))) (List.range ss.length) [some (.lst (ss.map dS)), none, none] fun i hi => by
    have hi := List.mem_range.mp hi
    have inn := for_first (tm := tmName 2) (body := C.b__law_first_1) (vs := [2]) (ws := []) (fun k : Nat => D.int (k : Nat)) (inF ss i) (fun b => Hd.fr (cD (some b))) (inJ ss i) [some (.lst (ss.map dS)), some (.int i), none] fun j hj => lfirst_turn hi (mem_inJ.mp hj).2
    have r2 : rng2D [.int ((i : Int) + 1), .int (ss.length : Nat)] = .ok ((inJ ss i).map fun j : Nat => D.int (j : Nat)) := by
      rw [d_rng2, if_pos, items_J hi]
      rw [rngOk_of (by omega) (by omega), rngOk_of (by omega) (by omega)]; rfl
    have z : szOk ((inJ ss i).map fun j : Nat => D.int (j : Nat)).length = true := szOk_of (by unfold inJ; rw [List.length_map, List.length_map, List.length_range]; omega)
    have ln : lenD [.lst (ss.map dS)] = .ok (.int ss.length) := by rw [d_lenL, List.length_map]
    refine ⟨fun e => ?_, fun b e => ?_⟩
    · have inn := inn.1 e
      simp only [turnF, C.b__law_first_2]
      generalize C.b__law_first_1 = B at *
      generalize ((inJ ss i).map fun j : Nat => D.int (j : Nat)) = RR at *
      generalize ss.map dS = SD at *
      simp [ln, r2, z, inn, -d_rng2, -d_lenL]
    · obtain ⟨ρ', inn⟩ := inn.2 b e
      refine ⟨ρ', ?_⟩
      simp only [turnF, C.b__law_first_2]
      generalize C.b__law_first_1 = B at *
      generalize ((inJ ss i).map fun j : Nat => D.int (j : Nat)) = RR at *
      generalize ss.map dS = SD at *
      simp [ln, r2, z, inn, -d_rng2, -d_lenL]
  have ln : lenD [.lst (ss.map dS)] = .ok (.int ss.length) := by rw [d_lenL, List.length_map]
  have rk : rngOk (ss.length : Nat) = true := rngOk_of (by omega) (by omega)
  have zk : szOk ss.length = true := szOk_of (by omega)
  cases e : firstC ss with
  | none =>
    have lp := lp.1 e
    simp only [C.g__law_first, C.m__law_first, cD]
    generalize C.b__law_first_2 = B at *
    generalize ss.map dS = SD at *
    simp [e_fnP, ln, rk, zk, lp, -d_lenL]
  | some b =>
    obtain ⟨ρ', lp⟩ := lp.2 b e
    simp only [C.g__law_first, C.m__law_first]
    generalize cD (some b) = CB at *
    generalize C.b__law_first_2 = B at *
    generalize ss.map dS = SD at *
    simp [e_fnP, ln, rk, zk, lp, -d_lenL]
end
theorem clash_er {m : Nat} {d : D} (h : (C.g_first_clash [.int m, d] = .er "NoSeen" []) ∨ ∃ p, C.g_first_clash [.int m, d] = .ok (.fr (cD (some p)))) : C.g_need_no_clash [.int m, d] = .er "NoSeen" [] := by
  simp only [C.g_need_no_clash, C.m_need_no_clash]
  rcases h with h | ⟨p, h⟩
  · simp [e_fnP, h]
  · simp [e_fnP, h, cD, Y.isNon]
theorem few_er {m k : Nat} {d : D} (h : C.g_need_no_clash [.int m, d] = .er "NoSeen" []) : C.g_fewest_ears [.int m, d, .int k] = .er "NoSeen" [] := by
  simp only [C.g_fewest_ears, C.m_fewest_ears]
  simp [e_fnP, h]
theorem rule_er {m k : Nat} {d : D} {c : Str} (h : C.g_fewest_ears [.int m, d, .int k] = .er c []) : C.g_rule_seen [.int m, d, .int k] = .er c [] := by
  simp only [C.g_rule_seen, C.m_rule_seen]
  simp [e_fnP, h]
theorem paper_er {m k : Nat} {d : D} (h : C.g_need_no_clash [.int m, d] = .er "NoSeen" []) : C.g_ear_paper [.int m, d, .int k] = .er "NoSeen" [] := by
  simp only [C.g_ear_paper, C.m_ear_paper]
  simp [e_fnP, h]
theorem shown_er {m k : Nat} {d e : D} (h : C.g_need_no_clash [.int m, d] = .er "NoSeen" []) : C.g_ears_shown [.int m, d, .int k, e] = .er "NoSeen" [] := by
  simp only [C.g_ears_shown, C.m_ears_shown]
  simp [e_fnP, h]
end H

set_option Elab.async false
set_option linter.all false
set_option maxRecDepth 100000
set_option maxHeartbeats 2000000
namespace H
open PySem PySem.Spec PyProof.Rows L2 Y
theorem sight_turn30 {ns : List RuleT} {n : Int} {ss : List SeT} {i : Nat} (g : GoodNet ns) (h1 : 1 ≤ ns.length) (h2 : ns.length ≤ 20) (hB : TabBits ns) (hl : ss.length ≤ 1000) (hs : ∀ s ∈ ss, OkS ns.length s) : ∃ (n' : Int) (s : SeT),
    turnF (tmName 4) C.b__law_sights_1 [4, 5, 6, 7] (.int (i : Nat)) [some (.lst [.int n]), some (dNet ns), some (.int 30), some (.lst (ss.map dS)), none, none, none, none, none] = .ok (.nx, [some (.lst [.int n']), some (dNet ns), some (.int 30), some (.lst ((ss ++ [s]).map dS)), none, none, none, none, none]) ∧ OkS ns.length s ∧ fitB ns s = true := by
  obtain ⟨st, n1, c, hl1, hb⟩ := comp_ex (tm := tmName 8) (t := cYes) (e := C.e__law_sights_1) (vs := [8]) (ws := []) dRule D.int (fun b : Int => [some (.lst [.int b]), some (dNet ns), some (.int 30), some (.lst (ss.map dS)), some (.int (i : Nat)), none, none, none, none]) (fun x => 0 ≤ x ∧ x < 2) ns n (fun b r hr => by
    have tk := take2_ok (n := b) (m := 2) (by omega) (by omega)
    refine ⟨b % 2, b / 2, ?_, by omega, by simp⟩
    simp only [turnC, C.e__law_sights_1]
    simp [tk])
  have hst : IsSt ns.length st := ⟨hl1, hb⟩
  have tm : ∀ b : Int, C.g__law_take_2 [.lst [.int b], .int ns.length] = .ok (.vl (.int (b % ns.length)), [some (.lst [.int (b / ns.length)]), none]) := fun b => take2_ok (by omega) (by omega)
  have ln : lenD [dNet ns] = .ok (.int ns.length) := by simp
  have ti3 := take2_ok (n := n1) (m := 3) (by omega) (by omega)
  have ne : neD (.lst (ss.map dS)) (.lst []) = .ok (.bl (!ss.isEmpty)) := by
    rw [neD_of (n := 3) fit_lS (by unfold Fit; intro d h; cases h), eqP_lst, eqPs_nil]
    cases ss <;> rfl
  have zn : szOk ns.length = true := szOk_of (by omega)
  have zn' : szOk (ns.map dRule).length = true := szOk_of (by rw [List.length_map]; omega)
  have zs : szOk (ss.length + 1) = true := szOk_of (by omega)
  have kk : ∀ b c : Int, ∃ k : Nat, k < ns.length ∧ b % (ns.length : Int) % (1 + c % (ns.length : Int)) = (k : Int) ∧ 0 < 1 + c % (ns.length : Int) := fun b c => by
    have e1 := Int.emod_nonneg b (b := ns.length) (by omega)
    have e2 := Int.emod_lt_of_pos b (b := ns.length) (by omega)
    have e3 := Int.emod_nonneg c (b := ns.length) (by omega)
    have e4 := Int.emod_nonneg (b % (ns.length : Int)) (b := 1 + c % (ns.length : Int)) (by omega)
    have e5 : b % (ns.length : Int) % (1 + c % (ns.length : Int)) ≤ b % (ns.length : Int) := by
      have := Int.emod_lt_of_pos (b % (ns.length : Int)) (b := 1 + c % (ns.length : Int)) (by omega)
      by_cases q : b % (ns.length : Int) < 1 + c % (ns.length : Int)
      · rw [Int.emod_eq_of_lt e1 q]; omega
      · omega
    exact ⟨(b % (ns.length : Int) % (1 + c % (ns.length : Int))).toNat, by omega, by omega, by omega⟩
  have fin : ∀ {s' : List Int} {k : Nat}, IsSt ns.length s' → k < ns.length → OkS ns.length (s', k, oughtI ns s' k) ∧ fitB ns (s', k, oughtI ns s' k) = true := fun {s' k} h hk => ⟨⟨h, hk, oughtI_bit hB⟩, decide_eq_true rfl⟩
  by_cases cc : ss.isEmpty = false ∧ n1 % 3 = 1
  · obtain ⟨c1, c3⟩ := cc
    rw [c1] at ne
    have lpos : 0 < ss.length := by
      cases ss with
      | nil => cases c1
      | cons _ _ => simp
    have tl := take2_ok (n := n1 / 3) (m := ss.length) (by omega) (by omega)
    obtain ⟨j, hj, ej⟩ : ∃ j : Nat, j < ss.length ∧ n1 / 3 % (ss.length : Int) = j := ⟨(n1 / 3 % (ss.length : Int)).toNat, by have := Int.emod_lt_of_pos (n1 / 3) (b := ss.length) (by omega); have := Int.emod_nonneg (n1 / 3) (b := ss.length) (by omega); omega, by have := Int.emod_nonneg (n1 / 3) (b := ss.length) (by omega); omega⟩
    rw [ej] at tl
    have aj : atI (ss.map dS) (j : Int) = some (.tup [ti ss[j].1, .int ss[j].2.1, .int ss[j].2.2]) := atI_of (j := j) rfl (by rw [List.getElem?_map, List.getElem?_eq_getElem hj]; rfl)
    have a0 : atI [ti ss[j].1, .int ss[j].2.1, .int ss[j].2.2] 0 = some (ti ss[j].1) := atI_of (j := 0) rfl rfl
    have okj := (hs ss[j] (List.getElem_mem hj)).st
    obtain ⟨a, ha, ea⟩ : ∃ a : Nat, a < ns.length ∧ n1 / 3 / (ss.length : Int) % (ns.length : Int) = a := ⟨(n1 / 3 / (ss.length : Int) % (ns.length : Int)).toNat, by have := Int.emod_lt_of_pos (n1 / 3 / (ss.length : Int)) (b := ns.length) (by omega); have := Int.emod_nonneg (n1 / 3 / (ss.length : Int)) (b := ns.length) (by omega); omega, by have := Int.emod_nonneg (n1 / 3 / (ss.length : Int)) (b := ns.length) (by omega); omega⟩
    have ta := tm (n1 / 3 / (ss.length : Int))
    rw [ea] at ta
    generalize n1 / 3 / (ss.length : Int) / (ns.length : Int) = n4 at ta
    obtain ⟨v, av, ecut, hst'⟩ := flip_at okj ha
    obtain ⟨k, hk, ek, nz⟩ := kk n4 (n4 / (ns.length : Int))
    have t1 := tm n4
    have t2 := tm (n4 / (ns.length : Int))
    have ot := told_ok g hst' hk
    obtain ⟨f1, f2⟩ := fin hst' hk
    generalize ss[j].1.take a ++ (1 - v) :: ss[j].1.drop (a + 1) = st' at *
    refine ⟨n4 / (ns.length : Int) / (ns.length : Int), (st', k, oughtI ns st' k), ?_, f1, f2⟩
    have z1 : szOk ((Y.cutD (ss[j].1.map D.int) none (some (a : Int))).length + 1) = true := szOk_of (by have := cutD_len (xs := ss[j].1.map D.int) (a := none) (b := some (a : Int)); rw [List.length_map, okj.len] at this; omega)
    have z2 : szOk ((Y.cutD (ss[j].1.map D.int) none (some (a : Int))).length + 1 + (Y.cutD (ss[j].1.map D.int) (some ((a : Int) + 1)) none).length) = true := szOk_of (by have := cutD_len (xs := ss[j].1.map D.int) (a := none) (b := some (a : Int)); have := cutD_len (xs := ss[j].1.map D.int) (a := some ((a : Int) + 1)) (b := none); rw [List.length_map, okj.len] at *; omega)
    have zz : szOk ss[j].1.length = true := szOk_of (by rw [okj.len]; omega)
    have ot : C.g__law_told [dNet ns, .tup (st'.map D.int), .int k] = _ := ot
    rw [← ecut] at ot
    rw [List.map_append, List.map_singleton]
    have eS : dS (st', k, oughtI ns st' k) = .tup [.tup (Y.cutD (ss[j].1.map D.int) none (some (a : Int)) ++ .int (1 - v) :: Y.cutD (ss[j].1.map D.int) (some ((a : Int) + 1)) none), .int k, .int (oughtI ns st' k)] := by rw [ecut]; rfl
    rw [eS]
    have lS : (ss.map dS).length = ss.length := List.length_map ..
    have zr : szOk (ss[j].1.map D.int).length = true := by rw [List.length_map]; exact zz
    have a0 : atI [D.tup (ss[j].1.map D.int), D.int ss[j].2.1, D.int ss[j].2.2] 0 = some (D.tup (ss[j].1.map D.int)) := a0
    have aj : atI (ss.map dS) (j : Int) = some (.tup [.tup (ss[j].1.map D.int), .int ss[j].2.1, .int ss[j].2.2]) := aj
    simp only [turnF, C.b__law_sights_1]
    clear fin kk hs f1 f2 hst' okj hst eS ecut
    have c' : cCompL (tmName 8) cYes C.e__law_sights_1 [8] [] (ns.map dRule) [some (.lst [.int n]), some (.tup (ns.map dRule)), some (.int 30), some (.lst (ss.map dS)), some (.int (i : Nat)), none, none, none, none] = .ok (st.map D.int, [some (.lst [.int n1]), some (.tup (ns.map dRule)), some (.int 30), some (.lst (ss.map dS)), some (.int (i : Nat)), none, none, none, none]) := c
    have ln : lenD [.tup (ns.map dRule)] = .ok (.int ns.length) := ln
    have ot : C.g__law_told [D.tup (ns.map dRule), _, _] = _ := ot
    show turnF _ _ _ _ [some (.lst [.int n]), some (.tup (ns.map dRule)), some (.int 30), some (.lst (ss.map dS)), none, none, none, none, none] = R.ok (.nx, [_, some (.tup (ns.map dRule)), _, _, _, _, _, _, _])
    simp only [turnF]
    generalize C.e__law_sights_1 = E1 at *
    generalize ss[j].1.map D.int = SJ at *
    generalize ss.map dS = SS at *
    generalize ns.map dRule = NS at *
    generalize oughtI ns st' k = og at *
    simp [c', ne, ti3, c3, lS, tl, aj, a0, ln, ta, av, z1, z2, zr, t1, t2, ek, nz, ot, zs, zn, zn', shAt, knownB, szOk_of, hl1]
  · obtain ⟨k, hk, ek, nz⟩ : ∃ k : Nat, k < ns.length ∧ (if ss.isEmpty = true then n1 else n1 / 3) % (ns.length : Int) % (1 + (if ss.isEmpty = true then n1 else n1 / 3) / (ns.length : Int) % (ns.length : Int)) = (k : Int) ∧ 0 < 1 + (if ss.isEmpty = true then n1 else n1 / 3) / (ns.length : Int) % (ns.length : Int) := kk _ _
    have t1 := tm (if ss.isEmpty = true then n1 else n1 / 3)
    have t2 := tm ((if ss.isEmpty = true then n1 else n1 / 3) / (ns.length : Int))
    have ot := told_ok g hst hk
    obtain ⟨f1, f2⟩ := fin hst hk
    refine ⟨(if ss.isEmpty = true then n1 else n1 / 3) / (ns.length : Int) / (ns.length : Int), (st, k, oughtI ns st k), ?_, f1, f2⟩
    rw [List.map_append, List.map_singleton]
    have eS : dS (st, k, oughtI ns st k) = .tup [.tup (st.map D.int), .int k, .int (oughtI ns st k)] := rfl
    rw [eS]
    have lS : (ss.map dS).length = ss.length := List.length_map ..
    have zr : szOk (st.map D.int).length = true := szOk_of (by rw [List.length_map]; omega)
    have c' : cCompL (tmName 8) cYes C.e__law_sights_1 [8] [] (ns.map dRule) [some (.lst [.int n]), some (.tup (ns.map dRule)), some (.int 30), some (.lst (ss.map dS)), some (.int (i : Nat)), none, none, none, none] = .ok (st.map D.int, [some (.lst [.int n1]), some (.tup (ns.map dRule)), some (.int 30), some (.lst (ss.map dS)), some (.int (i : Nat)), none, none, none, none]) := c
    have ln : lenD [.tup (ns.map dRule)] = .ok (.int ns.length) := ln
    have ot : C.g__law_told [D.tup (ns.map dRule), D.tup (st.map D.int), _] = _ := ot
    show turnF _ _ _ _ [some (.lst [.int n]), some (.tup (ns.map dRule)), some (.int 30), some (.lst (ss.map dS)), none, none, none, none, none] = R.ok (.nx, [_, some (.tup (ns.map dRule)), _, _, _, _, _, _, _])
    simp only [turnF, C.b__law_sights_1]
    clear fin kk hs f1 f2 hst eS c
    generalize C.e__law_sights_1 = E1 at *
    generalize oughtI ns st k = og at *
    generalize st.map D.int = S at *
    generalize ss.map dS = SS at *
    generalize ns.map dRule = NS at *
    cases he : ss.isEmpty with
    | true =>
      rw [he] at ne t1 t2 ek nz
      simp only [if_true] at t1 t2 ek nz
      simp [c', ne, lS, ln, zr, t1, t2, ek, nz, ot, zs, zn, zn', shAt, knownB, szOk_of, hl1]
    | false =>
      rw [he] at ne t1 t2 ek nz
      simp only [Bool.false_eq_true, if_false] at t1 t2 ek nz
      have c3 : ¬ n1 % 3 = 1 := fun z => cc ⟨he, z⟩
      simp [c', ne, ti3, c3, lS, ln, zr, t1, t2, ek, nz, ot, zs, zn, zn', shAt, knownB, szOk_of, hl1]

theorem law_sights30_ok {ns : List RuleT} {n : Int} (g : GoodNet ns) (h1 : 1 ≤ ns.length) (h2 : ns.length ≤ 20) (hB : TabBits ns) : ∃ (n' : Int) (ss : List SeT),
    C.g__law_sights [.lst [.int n], dNet ns, .int 30] = .ok (.fr (.lst (ss.map dS)), [some (.lst [.int n']), none, none]) ∧ (∀ s ∈ ss, OkS ns.length s ∧ fitB ns s = true) ∧ ss.length ≤ 30 := by
  have tk := take2_ok (n := n) (m := 31) (by omega) (by omega)
  obtain ⟨M, hM⟩ : ∃ M : Nat, n % 31 = M := ⟨(n % 31).toNat, by omega⟩
  have hM' : M ≤ 30 := by omega
  rw [hM] at tk
  obtain ⟨ρ', lp, n', ss, rfl, hs, hl⟩ := for_inx (tm := tmName 4) (body := C.b__law_sights_1) (vs := [4, 5, 6, 7]) (ws := []) (fun i : Nat => D.int (i : Nat)) (fun i ρ => ∃ (n : Int) (ss : List SeT), ρ = [some (.lst [.int n]), some (dNet ns), some (.int 30), some (.lst (ss.map dS)), none, none, none, none, none] ∧ (∀ s ∈ ss, OkS ns.length s ∧ fitB ns s = true) ∧ ss.length ≤ i) M
    [some (.lst [.int (n / 31)]), some (dNet ns), some (.int 30), some (.lst []), none, none, none, none, none] ⟨n / 31, [], rfl, by simp, by simp⟩ fun i ρ hi ⟨n, ss, e, hs, hl⟩ => by
      subst e
      obtain ⟨n', s, t, o1, o2⟩ := sight_turn30 (i := i) (n := n) g h1 h2 hB (ss := ss) (by omega) fun s h => (hs s h).1
      refine ⟨_, t, ⟨n', ss ++ [s], rfl, fun t ht => ?_, by rw [List.length_append, List.length_singleton]; omega⟩, by simp⟩
      rcases List.mem_append.mp ht with ht | ht
      · exact hs t ht
      · obtain rfl := List.mem_singleton.mp ht
        exact ⟨o1, o2⟩
  have rM : rngOk M = true := rngOk_of (by omega) (by omega)
  have zM : szOk M = true := szOk_of (by omega)
  refine ⟨n', ss, ?_, hs, by omega⟩
  simp only [C.g__law_sights, C.m__law_sights]
  generalize C.b__law_sights_1 = B1 at *
  generalize dNet ns = N at *
  generalize ss.map dS = S at *
  simp [e_fnD, tk, rM, zM, lp, shAt]
theorem ne_nilS {ss : List SeT} : neD (.lst (ss.map dS)) (.lst []) = .ok (.bl (!ss.isEmpty)) := by
  rw [neD_of (n := 3) fit_lS (by unfold Fit; intro d h; cases h), eqP_lst, eqPs_nil]
  cases ss <;> rfl
theorem dig_natQ {b : Int} {m : Nat} (h : 0 < m) : ∃ j : Nat, b % (m : Int) = j ∧ j < m := by
  have h1 := Int.emod_nonneg b (b := (m : Int)) (by omega)
  have h2 := Int.emod_lt_of_pos b (b := (m : Int)) (by omega)
  exact ⟨(b % (m : Int)).toNat, by omega, by omega⟩
theorem doubled_turn {m i : Nat} {b : Int} {ss FS : List SeT} (hp : 0 < ss.length) (hl : ss.length ≤ 100) (hf : FS.length ≤ 1000) (hs : ∀ s ∈ ss, OkS m s) (hF : ∀ s ∈ FS, OkS m s) : ∃ (b' : Int) (GS : List SeT),
    turnF (tmName 3) C.b__law_doubled_1 [3, 4, 5, 6] (.int (i : Nat)) [some (.lst [.int b]), some (.lst (ss.map dS)), some (.lst (FS.map dS)), none, none, none, none] = .ok (.nx, [some (.lst [.int b']), some (.lst (ss.map dS)), some (.lst (GS.map dS)), none, none, none, none]) ∧ (∀ s ∈ GS, OkS m s) ∧ GS.length = FS.length + 1 := by
  have t1 := take2_ok (n := b) (m := ss.length) (by omega) (by omega)
  obtain ⟨j, hj, hjl⟩ := dig_natQ (b := b) (m := ss.length) hp
  rw [hj] at t1
  have a1 := at_ss hjl
  have x1 : ixD (.lst (ss.map dS)) (.int (j : Nat)) = .ok (dS ss[j]) := by
    show (match atI (ss.map dS) (j : Int) with | some d => Y.R.ok d | none => Y.R.stk) = _
    rw [a1]
  have o1 := hs _ (List.getElem_mem hjl)
  generalize ss[j] = s at *
  obtain ⟨st, k, v⟩ := s
  generalize b / (ss.length : Int) = b1 at *
  have t2 := take2_ok (n := b1) (m := (FS.length + 1 : Nat)) (by omega) (by omega)
  obtain ⟨q, hq, hql⟩ := dig_natQ (b := b1) (m := FS.length + 1) (by omega)
  rw [hq] at t2
  generalize b1 / ((FS.length + 1 : Nat) : Int) = b2 at *
  have t3 := take2_ok (n := b2) (m := 3) (by omega) (by omega)
  obtain ⟨w, hw, hwl⟩ := dig_natQ (b := b2) (m := 3) (by omega)
  have hw : b2 % 3 = (w : Int) := hw
  rw [hw] at t3
  obtain ⟨x, hx, hxb⟩ : ∃ x : Int, ixD (.lst [.int v, .int v, .int (1 - v)]) (.int (w : Nat)) = .ok (.int x) ∧ 0 ≤ x ∧ x < 2 := by
    have := o1.b
    have w3 : w = 0 ∨ w = 1 ∨ w = 2 := by omega
    rcases w3 with rfl | rfl | rfl
    · exact ⟨v, rfl, this⟩
    · exact ⟨v, rfl, this⟩
    · exact ⟨1 - v, rfl, by dsimp only at this; omega⟩
  refine ⟨b2 / 3, FS.take q ++ [(st, k, x)] ++ FS.drop q, ?_, fun s h => ?_, by simp only [List.length_append, List.length_take, List.length_drop, List.length_singleton]; omega⟩
  · have ln := List.length_map (f := dS) (as := ss)
    have l1 : lenD [.lst (ss.map dS)] = .ok (.int (ss.length : Nat)) := by rw [d_lenL, List.length_map]
    have l2 : lenD [.lst (FS.map dS)] = .ok (.int (FS.length : Nat)) := by rw [d_lenL, List.length_map]
    have l3 : ((FS.length : Nat) : Int) + 1 = ((FS.length + 1 : Nat) : Int) := by omega
    have mp : (FS.take q ++ [(st, k, x)] ++ FS.drop q).map dS = (FS.map dS).take q ++ [D.tup [ti st, .int (k : Nat), .int x]] ++ (FS.map dS).drop q := by
      rw [List.map_append, List.map_append, List.map_take, List.map_drop]; rfl
    have zq : szOk ((FS.map dS).length + 1) = true := szOk_of (by rw [List.length_map]; omega)
    have q0 : (q : Int) < 4611686018427387904 := by omega
    rw [mp]
    have x1 : ixD (.lst (ss.map dS)) (.int (j : Nat)) = .ok (.tup [ti st, .int (k : Nat), .int v]) := x1
    have z3 : szOk 3 = true := szOk_of (by omega)
    simp only [turnF, C.b__law_doubled_1]
    generalize ti st = TS at *
    generalize ss.map dS = SD at *
    generalize FS.map dS = FD at *
    generalize ((FS.length + 1 : Nat) : Int) = F1 at *
    simp [l1, t1, x1, l2, l3, t2, t3, hx, z3, zq, q0, -d_lenL]
  · simp only [List.mem_append, List.mem_singleton] at h
    rcases h with (h | h) | h
    · exact hF s (List.mem_of_mem_take h)
    · subst h
      exact ⟨o1.st, o1.k, hxb⟩
    · exact hF s (List.mem_of_mem_drop h)
theorem law_doubled_ok {m : Nat} {b : Int} {ss : List SeT} (hl : ss.length ≤ 100) (hs : ∀ s ∈ ss, OkS m s) : ∃ (b' : Int) (GS : List SeT), C.g__law_doubled [.lst [.int b], .lst (ss.map dS)] = .ok (.fr (.lst (GS.map dS)), [some (.lst [.int b']), none]) ∧ (∀ s ∈ GS, OkS m s) ∧ GS.length ≤ ss.length + 3 := by
  have t4 := take2_ok (n := b) (m := 4) (by omega) (by omega)
  obtain ⟨J, hJ, hJ4⟩ := dig_natQ (b := b) (m := 4) (by omega)
  have hJ : b % 4 = (J : Int) := hJ
  rw [hJ] at t4
  have J4 : J = 0 ∨ J = 1 ∨ J = 2 ∨ J = 3 := by omega
  have mo0 : mulOk (J : Int) 0 = true := by rcases J4 with rfl | rfl | rfl | rfl <;> decide
  have mo1 : mulOk (J : Int) 1 = true := by rcases J4 with rfl | rfl | rfl | rfl <;> decide
  have ne := ne_nilS (ss := ss)
  have ld : listD [.lst (ss.map dS)] = .ok (.lst (ss.map dS)) := rfl
  cases ss with
  | nil =>
    refine ⟨b / 4, [], ?_, fun s h => (nomatch h), Nat.zero_le _⟩
    have ne : neD (.lst []) (.lst []) = .ok (.bl false) := ne
    have io : intOfD [.bl false] = .ok (.int 0) := rfl
    have ld : listD [.lst []] = .ok (.lst []) := rfl
    have r0 : rng1D [.int 0] = .ok [] := rfl
    show C.g__law_doubled [.lst [.int b], .lst []] = _
    simp only [C.g__law_doubled, C.m__law_doubled]
    generalize C.b__law_doubled_1 = B at *
    have ro : rngOk 0 = true := rngOk_of (by omega) (by omega)
    have z0 : szOk 0 = true := szOk_of (by omega)
    simp [e_fnD, ld, ne, t4, io, mo0, ro, z0, shAt, chkO_ws, forL]
  | cons s0 ss0 =>
    generalize hss : s0 :: ss0 = ss at *
    have hp : 0 < ss.length := by rw [← hss]; simp
    have ne : neD (.lst (ss.map dS)) (.lst []) = .ok (.bl true) := by rw [ne, ← hss]; rfl
    have io : intOfD [.bl true] = .ok (.int 1) := rfl
    have mu : (J : Int) * 1 = (J : Int) := Int.mul_one _
    obtain ⟨ρ', lp, b', GS, rfl, hG, gl⟩ := for_inx (tm := tmName 3) (body := C.b__law_doubled_1) (vs := [3, 4, 5, 6]) (ws := []) (fun i : Nat => D.int (i : Nat)) (fun i ρ => ∃ (b' : Int) (GS : List SeT), ρ = [some (.lst [.int b']), some (.lst (ss.map dS)), some (.lst (GS.map dS)), none, none, none, none] ∧ (∀ s ∈ GS, OkS m s) ∧ GS.length = ss.length + i) J
      [some (.lst [.int (b / 4)]), some (.lst (ss.map dS)), some (.lst (ss.map dS)), none, none, none, none] ⟨b / 4, ss, rfl, hs, rfl⟩ fun i ρ hi ⟨b', FS, e, hF, fl⟩ => by
        subst e
        obtain ⟨b2, GS, t, hG, gl⟩ := doubled_turn (i := i) (b := b') hp hl (by omega) hs hF
        exact ⟨_, t, ⟨b2, GS, rfl, hG, by omega⟩, fun _ z => (nomatch z)⟩
    have rg : rng1D [.int (J : Nat)] = .ok ((List.range J).map fun i : Nat => D.int (i : Nat)) := by
      rw [d_rng1, if_pos (rngOk_of (by omega) (by omega))]; rfl
    have zJ : szOk ((List.range J).map fun i : Nat => D.int (i : Nat)).length = true := szOk_of (by rw [List.length_map, List.length_range]; omega)
    refine ⟨b', GS, ?_, hG, by omega⟩
    simp only [C.g__law_doubled, C.m__law_doubled]
    generalize C.b__law_doubled_1 = B at *
    generalize ((List.range J).map fun i : Nat => D.int (i : Nat)) = RL at *
    generalize ss.map dS = SD at *
    generalize GS.map dS = GD at *
    simp [e_fnD, ld, ne, t4, io, mo1, mu, rg, zJ, lp, shAt, chkO_ws, -d_rng1]
end H

set_option Elab.async false
set_option linter.all false
set_option maxRecDepth 100000
set_option maxHeartbeats 2000000
namespace H
open PySem PySem.Spec PyProof.Rows L2 Y
theorem few_someQ {ss : List SeT} {k m : Nat} {e : List Int} (h : fewO ss k m = some e) : (∀ j ∈ e, j ∈ rgI m) ∧ e.length ≤ 4 ∧ telB ss k e = true := by
  obtain ⟨sz, hsz, h1⟩ := List.exists_of_findSome?_eq_some h
  obtain ⟨e', he', h2⟩ := List.exists_of_findSome?_eq_some h1
  unfold telO at h2
  have hsz := List.mem_range.mp hsz
  cases c : telB ss k e' with
  | false => rw [c] at h2; simp at h2
  | true =>
    rw [c] at h2
    have : e' = e := by simpa using h2
    subst this
    obtain ⟨p1, p2⟩ := pk_in he'
    exact ⟨p1, by omega, c⟩
section
variable {m : Nat} {d : D}
theorem ns_ok {i : Nat} {r : D} {o : Option D} (h : C.g_rule_seen [.int m, d, .int i] = .ok (.fr r)) : C.e_net_seen_2_1 [some (.int m), some d, some (.int i)] = .ok (.fr r, [some (.int m), some d, some (.int i)]) := by
  simp only [C.e_net_seen_2_1]
  simp [h]
theorem ns_er {i : Nat} {c : Str} (h : C.g_rule_seen [.int m, d, .int i] = .er c []) : C.e_net_seen_2_1 [some (.int m), some d, some (.int i)] = .er c [] := by
  simp only [C.e_net_seen_2_1]
  simp [h]
theorem ns_cer {c : Str} {j : Nat} (hj : C.g_rule_seen [.int m, d, .int j] = .er c []) : ∀ (xs ys : List Nat), (∀ i ∈ xs, ∃ r, C.g_rule_seen [.int m, d, .int i] = .ok (.fr r)) →
    cCompL (tmName 2) cYes C.e_net_seen_2_1 [2] [] ((xs ++ j :: ys).map fun i : Nat => D.int (i : Nat)) [some (.int m), some d, none] = .er c [] ∧
    cCompLX (tmName 2) C.e_net_seen_2_1 [2] [] ((xs ++ j :: ys).map fun i : Nat => D.int (i : Nat)) [some (.int m), some d, none] = .er c []
  | [], ys, _ => by
    have e := ns_er hj
    rw [List.nil_append, List.map_cons]
    unfold cCompL cCompLX
    simp [cYes, e]
  | x :: xs, ys, h => by
    obtain ⟨r, hr⟩ := h x (by simp)
    have e := ns_ok (o := none) hr
    obtain ⟨i1, i2⟩ := ns_cer hj xs ys fun i hi => h i (by simp [hi])
    rw [List.cons_append, List.map_cons]
    unfold cCompL cCompLX
    generalize (xs ++ j :: ys).map (fun i : Nat => D.int (i : Nat)) = L at *
    generalize C.e_net_seen_2_1 = EE at *
    simp [cYes, e, i1, i2, wipeE, Y.R.nox]
theorem net_er {c : Str} {j : Nat} (hm : m ≤ 100) (hj : j < m) (hr : C.g_rule_seen [.int m, d, .int j] = .er c []) (hi : ∀ i, i < j → ∃ r, C.g_rule_seen [.int m, d, .int i] = .ok (.fr r)) : C.g_net_seen_2 [.int m, d] = .er c [] := by
  have sp : List.range m = List.range j ++ j :: (List.range m).drop (j + 1) := by
    conv => lhs; rw [← List.take_append_drop j (List.range m)]
    rw [List.take_range, Nat.min_eq_left (by omega), List.drop_eq_getElem_cons (by simpa using hj), List.getElem_range]
  obtain ⟨i1, i2⟩ := ns_cer hr (List.range j) ((List.range m).drop (j + 1)) fun i h => hi i (List.mem_range.mp h)
  rw [← sp] at i1 i2
  have rg : rng1D [.int (m : Nat)] = .ok ((List.range m).map fun i : Nat => D.int (i : Nat)) := by
    rw [d_rng1, if_pos (rngOk_of (by omega) (by omega))]; rfl
  have zJ : szOk ((List.range m).map fun i : Nat => D.int (i : Nat)).length = true := szOk_of (by rw [List.length_map, List.length_range]; omega)
  simp only [C.g_net_seen_2, C.m_net_seen_2]
  generalize C.e_net_seen_2_1 = EE at *
  generalize ((List.range m).map fun i : Nat => D.int (i : Nat)) = RL at *
  simp [e_fnP, rg, zJ, i1, i2, wipeE, -d_rng1]
end
section
variable {ss : List SeT} {m k : Nat}
theorem net_seen2_ok {E : Nat → List Int} (hs : ∀ s ∈ ss, OkS m s) (nc : NoCl ss) (hm : m ≤ 8) (hz : ss.length ≤ 200) (hE : ∀ k, k < m → fewO ss k m = some (E k)) :
    C.g_net_seen_2 [.int m, .lst (ss.map dS)] = .ok (.fr (dNet ((List.range m).map fun k => ruleS ss k (E k)))) := by
  have c := comp_map (tm := tmName 2) (t := cYes) (e := C.e_net_seen_2_1) (vs := [2]) (ws := []) (ρ := [some (.int m), some (.lst (ss.map dS)), none]) (fun k : Nat => D.int (k : Nat)) (fun k => dRule (ruleS ss k (E k))) (List.range m) fun k hk => by
    have h1 := hE k (List.mem_range.mp hk)
    obtain ⟨h2, h3, h4⟩ := few_someQ h1
    have r := rule_seen_ok hs nc hm hz h1 h2 h3 h4
    simp only [turnC, C.e_net_seen_2_1]
    generalize dRule (ruleS ss k (E k)) = DR at *
    generalize ss.map dS = SD at *
    simp [r]
  have e2 : ((List.range m).map fun k => dRule (ruleS ss k (E k))) = ((List.range m).map fun k => ruleS ss k (E k)).map dRule := by rw [List.map_map]; rfl
  rw [e2] at c
  have rm : rngOk m = true := rngOk_of (by omega) (by omega)
  have zm : szOk m = true := szOk_of (by omega)
  have zt : szOk (((List.range m).map fun k => ruleS ss k (E k)).map dRule).length = true := szOk_of (by rw [List.length_map, List.length_map, List.length_range]; omega)
  show _ = Y.R.ok (Hd.fr (.tup (((List.range m).map fun k => ruleS ss k (E k)).map dRule)))
  simp only [C.g_net_seen_2, C.m_net_seen_2]
  generalize C.e_net_seen_2_1 = E1 at *
  generalize ((List.range m).map fun k => ruleS ss k (E k)).map dRule = NS at *
  generalize ss.map dS = SD at *
  simp [e_fnP, rm, zm, c, zt]
end
theorem s_seenQ : Str.ofString "seen" = tx [115, 101, 101, 110] := by decide +kernel
theorem s_manyR : Str.ofString "many" = tx [109, 97, 110, 121] := by decide +kernel
def seenS : D := .str (Str.ofString "seen")
theorem fit_seenS {n : Nat} : Fit n seenS := by
  unfold seenS
  rw [s_seenQ]
  exact fit_dt fun x hx => by simp at hx; omega
theorem eq_seen : eqD seenS seenS = .ok (.bl true) := eqD_refl (n := 0) fit_seenS
theorem ne_seen : neD seenS seenS = .ok (.bl false) := neD_refl (n := 0) fit_seenS
theorem eq_manyS : eqD (.str (Str.ofString "many")) seenS = .ok (.bl false) := by
  unfold seenS
  rw [s_seenQ, s_manyR]
  have := eq_dt (a := [109, 97, 110, 121]) (b := [115, 101, 101, 110]) (fun x hx => by simp at hx; omega) (fun x hx => by simp at hx; omega)
  rw [this]; rfl
section
variable {m k : Nat} {d : D}
theorem asked0 {r : Hd} (hr : r = .fr seenS ∨ ∃ x, r = .fr x ∧ C.g_first_clash [.int m, d] = .ok (.fr x)) (h : r = .fr seenS → C.g_first_clash [.int m, d] = .er "NoSeen" []) : C.g__law_asked_12 [.int 0, .int m, d, .int k] = .ok r := by
  simp only [C.g__law_asked_12, C.m__law_asked_12, C.w__law_asked_12_1]
  rcases hr with rfl | ⟨x, rfl, hx⟩
  · have h := h rfl
    unfold seenS
    simp [C.h__law_asked_12_1, e_fnP, h, kw_seen]
  · simp [C.h__law_asked_12_1, e_fnP, hx]
theorem asked_er {w : Nat} {c cd : Str} (hc : (c = "NoSeen" ∧ cd = Str.ofString "seen") ∨ (c = "TooMany" ∧ cd = Str.ofString "many"))
    (h : (w = 1 ∧ C.g_fewest_ears [.int m, d, .int k] = .er c []) ∨ (w = 2 ∧ C.g_rule_seen [.int m, d, .int k] = .er c []) ∨ (w = 3 ∧ C.g_net_seen_2 [.int m, d] = .er c []) ∨ (w = 4 ∧ C.g_ear_paper [.int m, d, .int k] = .er c []) ∨ (w = 5 ∧ C.g_ears_shown [.int m, d, .int k, .lst []] = .er c [])) :
    C.g__law_asked_12 [.int (w : Nat), .int m, d, .int k] = .ok (.fr (.str cd)) := by
  simp only [C.g__law_asked_12, C.m__law_asked_12, C.w__law_asked_12_1]
  rcases hc with ⟨rfl, rfl⟩ | ⟨rfl, rfl⟩ <;> rcases h with ⟨rfl, h⟩ | ⟨rfl, h⟩ | ⟨rfl, h⟩ | ⟨rfl, h⟩ | ⟨rfl, h⟩ <;> simp [C.h__law_asked_12_1, e_fnP, h, kw_seen, kw_many, szOk_of]
theorem asked_val {w : Nat} {r : Hd} {x : D} (hr : r = .fr x ∨ r = .vl x)
    (h : (w = 1 ∧ C.g_fewest_ears [.int m, d, .int k] = .ok r) ∨ (w = 2 ∧ C.g_rule_seen [.int m, d, .int k] = .ok r) ∨ (w = 3 ∧ C.g_net_seen_2 [.int m, d] = .ok r) ∨ (w = 4 ∧ C.g_ear_paper [.int m, d, .int k] = .ok r) ∨ (w = 5 ∧ C.g_ears_shown [.int m, d, .int k, .lst []] = .ok r)) :
    C.g__law_asked_12 [.int (w : Nat), .int m, d, .int k] = .ok r := by
  simp only [C.g__law_asked_12, C.m__law_asked_12, C.w__law_asked_12_1]
  rcases hr with rfl | rfl <;> rcases h with ⟨rfl, h⟩ | ⟨rfl, h⟩ | ⟨rfl, h⟩ | ⟨rfl, h⟩ | ⟨rfl, h⟩ <;> simp [C.h__law_asked_12_1, e_fnP, h, szOk_of]
/-- what is asked is refused or is not, as told -/
def AskB (m k : Nat) (d : D) (b : Bool) : Prop := ∀ w : Nat, 1 ≤ w → w ≤ 5 → ∃ (r : Hd) (x : D), C.g__law_asked_12 [.int (w : Nat), .int m, d, .int k] = .ok r ∧ (r = .fr x ∨ r = .vl x) ∧ eqD x seenS = .ok (.bl b)
theorem ask_refused (hm : 1 ≤ m) (hm2 : m ≤ 100) (h : C.g_need_no_clash [.int m, d] = .er "NoSeen" []) : AskB m k d true := fun w h1 h5 => by
  have f : ∀ i : Nat, C.g_fewest_ears [.int m, d, .int i] = .er "NoSeen" [] := fun i => few_er h
  have r : ∀ i : Nat, C.g_rule_seen [.int m, d, .int i] = .er "NoSeen" [] := fun i => rule_er (f i)
  have n := net_er (j := 0) hm2 (by omega) (r 0) fun i hi => absurd hi (by omega)
  refine ⟨.fr seenS, seenS, asked_er (c := "NoSeen") (.inl ⟨rfl, rfl⟩) ?_, .inl rfl, eq_seen⟩
  have : w = 1 ∨ w = 2 ∨ w = 3 ∨ w = 4 ∨ w = 5 := by omega
  rcases this with rfl | rfl | rfl | rfl | rfl
  · exact .inl ⟨rfl, f k⟩
  · exact .inr (.inl ⟨rfl, r k⟩)
  · exact .inr (.inr (.inl ⟨rfl, n⟩))
  · exact .inr (.inr (.inr (.inl ⟨rfl, paper_er h⟩)))
  · exact .inr (.inr (.inr (.inr ⟨rfl, shown_er h⟩)))
end
theorem tup_seen {n : Nat} {xs : List D} (h : Fit n (.tup xs)) (hn : n ≤ 64) : eqD (.tup xs) seenS = .ok (.bl false) := by
  rw [eqD_of h fit_seenS hn]; rfl
theorem lst_seen {n : Nat} {xs : List D} (h : Fit n (.lst xs)) (hn : n ≤ 64) : eqD (.lst xs) seenS = .ok (.bl false) := by
  rw [eqD_of h fit_seenS hn]; rfl
theorem non_seen : eqD .non seenS = .ok (.bl false) := by
  rw [eqD_of (n := 0) (by unfold Fit; trivial) fit_seenS]; rfl
theorem int_seen {i : Int} : eqD (.int i) seenS = .ok (.bl false) := by
  rw [eqD_of (n := 0) fit_int fit_seenS]; rfl
theorem ask_fine {ss : List SeT} {m k : Nat} (hm1 : 1 ≤ m) (hm : m ≤ 8) (hk : k < m) (hs : ∀ s ∈ ss, OkS m s) (nc : NoCl ss) (hz : ss.length ≤ 200) : AskB m k (.lst (ss.map dS)) false := fun w h1 h5 => by
  have fo := few_ears_ok (k := k) hs nc hm hz
  have : w = 1 ∨ w = 2 ∨ w = 3 ∨ w = 4 ∨ w = 5 := by omega
  rcases this with rfl | rfl | rfl | rfl | rfl
  · cases e : fewO ss k m with
    | some x => exact ⟨.vl (ti x), ti x, asked_val (.inr rfl) (.inl ⟨rfl, fo.1 x e⟩), .inr rfl, tup_seen (n := 1) fit_tupI (by decide)⟩
    | none => exact ⟨_, _, asked_er (c := "TooMany") (.inr ⟨rfl, rfl⟩) (.inl ⟨rfl, fo.2 e⟩), .inl rfl, eq_manyS⟩
  · cases e : fewO ss k m with
    | some x =>
      obtain ⟨h2, h3, h4⟩ := few_someQ e
      exact ⟨_, _, asked_val (.inl rfl) (.inr (.inl ⟨rfl, rule_seen_ok hs nc hm hz e h2 h3 h4⟩)), .inl rfl, tup_seen (n := 2) fit_rule (by decide)⟩
    | none => exact ⟨_, _, asked_er (c := "TooMany") (.inr ⟨rfl, rfl⟩) (.inr (.inl ⟨rfl, rule_er (fo.2 e)⟩)), .inl rfl, eq_manyS⟩
  · by_cases c : ∀ i, i < m → ∃ x, fewO ss i m = some x
    · have hE : ∀ i, i < m → fewO ss i m = some ((fewO ss i m).getD []) := fun i hi => by
        obtain ⟨x, hx⟩ := c i hi
        rw [hx]; rfl
      exact ⟨_, _, asked_val (.inl rfl) (.inr (.inr (.inl ⟨rfl, net_seen2_ok (E := fun i => (fewO ss i m).getD []) hs nc hm hz hE⟩))), .inl rfl, tup_seen (n := 3) fit_net (by decide)⟩
    · -- the first switch that is refused
      obtain ⟨j, hj, hn, hlt⟩ : ∃ j, j < m ∧ fewO ss j m = none ∧ ∀ i, i < j → ∃ x, fewO ss i m = some x := by
        have : ∀ n, n ≤ m → (∀ i, i < n → ∃ x, fewO ss i m = some x) ∨ ∃ j, j < n ∧ fewO ss j m = none ∧ ∀ i, i < j → ∃ x, fewO ss i m = some x := by
          intro n
          induction n with
          | zero => intro _; exact .inl fun i hi => absurd hi (by omega)
          | succ n ih =>
            intro hn
            rcases ih (by omega) with h | ⟨j, h1, h2, h3⟩
            · cases e : fewO ss n m with
              | some x =>
                refine .inl fun i hi => ?_
                by_cases q : i = n
                · exact ⟨x, by rw [q]; exact e⟩
                · exact h i (by omega)
              | none => exact .inr ⟨n, by omega, e, h⟩
            · exact .inr ⟨j, by omega, h2, h3⟩
        rcases this m (Nat.le_refl _) with h | h
        · exact absurd h c
        · exact h
      have er := rule_er ((few_ears_ok (k := j) hs nc hm hz).2 hn)
      have n := net_er (by omega) hj er fun i hi => by
        obtain ⟨x, hx⟩ := hlt i hi
        obtain ⟨h2, h3, h4⟩ := few_someQ hx
        exact ⟨_, rule_seen_ok hs nc hm hz hx h2 h3 h4⟩
      exact ⟨_, _, asked_er (c := "TooMany") (.inr ⟨rfl, rfl⟩) (.inr (.inr (.inl ⟨rfl, n⟩))), .inl rfl, eq_manyS⟩
  · obtain ⟨PL, hp, _⟩ := ear_paper_ok (k := k) hm hs nc hz
    exact ⟨_, _, asked_val (.inl rfl) (.inr (.inr (.inr (.inl ⟨rfl, hp⟩)))), .inl rfl, lst_seen (n := 2) (fun x hx => by
      obtain ⟨p, _, rfl⟩ := List.mem_map.mp hx
      rw [dPr_ti]
      exact fit_tupI) (by decide)⟩
  · obtain ⟨h, e1, _, e2⟩ := shown_both (k := k) (d := .lst []) hm hz hs nc (pp_lst (by simp) fun x hx => by cases hx)
    rcases e2 with rfl | ⟨j, rfl⟩
    · exact ⟨_, _, asked_val (.inl rfl) (.inr (.inr (.inr (.inr ⟨rfl, e1⟩)))), .inl rfl, non_seen⟩
    · exact ⟨_, _, asked_val (.inr rfl) (.inr (.inr (.inr (.inr ⟨rfl, e1⟩)))), .inr rfl, int_seen⟩
end H

set_option Elab.async false
set_option linter.all false
set_option maxRecDepth 100000
set_option maxHeartbeats 4000000
namespace H
open PySem PySem.Spec PyProof.Rows L2 Y
theorem first_er {m : Nat} {d : D} (h : Sn d) (c : seenB m d = false) : C.g_first_clash [.int m, d] = .er "NoSeen" [] := by
  have ns := need_seen_any (m := (m : Int)) h
  rw [c] at ns
  have ns : C.g_need_seen [.int (m : Nat), d] = .er "NoSeen" [] := ns
  simp only [C.g_first_clash, C.m_first_clash]
  generalize C.b_first_clash_2 = B
  simp [e_fnP, ns]
def fiveB (b : Bool) : List D := [.bl b, .bl b, .bl b, .bl b, .bl b]
theorem fit5 {b : Bool} : Fit 1 (.lst (fiveB b)) := fun x hx => by
  have : x = .bl b := by simpa [fiveB] using hx
  subst this
  unfold Fit; trivial
theorem mul5 : mulD (.lst [.bl true]) (.int 5) = .ok (.lst (fiveB true)) := by
  rw [d_mulL, if_pos ⟨by decide, by decide, szOk_of (by simp)⟩]; rfl
theorem ne5 : neD (.lst (fiveB true)) (.lst (fiveB true)) = .ok (.bl false) := neD_refl (n := 1) fit5
theorem in5 : inD (.bl true) (.lst (fiveB false)) = .ok (.bl false) := rfl
theorem fit_cD {o : Option (Nat × Nat)} : Fit 1 (cD o) := by
  cases o with
  | none => unfold cD Fit; trivial
  | some p =>
    intro x hx
    simp only [List.mem_cons, List.not_mem_nil, or_false] at hx
    rcases hx with rfl | rfl
    · exact fit_int
    · exact fit_int
theorem ask5 {m k : Nat} {d N : D} {b : Bool} {A B C2 D2 : Option D} (h : AskB m k d b) (ln : lenD [N] = .ok (.int (m : Nat))) :
    cCompL (tmName 9) cYes C.e_law_k82_2_1 [9] [] ((List.range 5).map fun j : Nat => D.int (1 + (j : Nat))) [A, B, C2, some N, some d, some (.int (k : Nat)), D2, none, none, none, none] = .ok (fiveB b, [A, B, C2, some N, some d, some (.int (k : Nat)), D2, none, none, none, none]) := by
  have c := comp_map (tm := tmName 9) (t := cYes) (e := C.e_law_k82_2_1) (vs := [9]) (ws := []) (ρ := [A, B, C2, some N, some d, some (.int (k : Nat)), D2, none, none, none, none]) (fun j : Nat => D.int (1 + (j : Nat))) (fun _ => D.bl b) (List.range 5) fun j hj => by
    have hj := List.mem_range.mp hj
    obtain ⟨r, x, e, hr, q⟩ := h (1 + j) (by omega) (by omega)
    have ei : (((1 + j : Nat) : Nat) : Int) = 1 + (j : Int) := by omega
    rw [ei] at e
    have q : eqD x (.str (Str.ofString "seen")) = .ok (.bl b) := q
    simp only [turnC, C.e_law_k82_2_1]
    generalize 1 + (j : Int) = w at *
    rcases hr with rfl | rfl <;> simp [ln, e, q, -d_lenT]
  exact c
theorem tail82 {ns : List RuleT} {k : Nat} {d : D} (hn : 1 ≤ ns.length) (h8 : ns.length ≤ 8) (hk : k < ns.length) (sn : Sn d) :
    (seenB ns.length d = false ∧ AskB ns.length k d true ∧ C.g__law_asked_12 [.int 0, .int ns.length, d, .int k] = .ok (.fr seenS)) ∨
    (seenB ns.length d = true ∧ ∃ o, C.g__law_first [d] = .ok (.fr (cD o)) ∧ C.g__law_asked_12 [.int 0, .int ns.length, d, .int k] = .ok (.fr (cD o)) ∧ AskB ns.length k d (o.isSome)) := by
  cases c : seenB ns.length d with
  | false =>
    have fe := first_er sn c
    exact .inl ⟨rfl, ask_refused hn (by omega) (clash_er (.inl fe)), asked0 (.inl rfl) fun _ => fe⟩
  | true =>
    obtain ⟨ss, rfl, hs, hl⟩ := seen_of c
    have fc := first_clash_any (m := ns.length) (by omega) hl hs
    have lf := law_first_any hl
    refine .inr ⟨rfl, firstC ss, lf, asked0 (.inr ⟨_, rfl, fc⟩) fun z => ?_, ?_⟩
    · cases q : firstC ss with
      | none => rw [q] at z; cases z
      | some p => rw [q] at z; cases z
    · cases q : firstC ss with
      | none => exact ask_fine hn h8 hk hs (nocl_of q) hl
      | some p =>
        rw [q] at fc
        exact ask_refused hn (by omega) (clash_er (.inr ⟨p, fc⟩))
theorem good_k82 : Good C.g_law_k82_2 63 := fun ns hl hb => by
  obtain ⟨M, hM⟩ : ∃ M : Nat, max (1 : Int) (min (ns.length : Int) 4) = M := ⟨(max (1 : Int) (min (ns.length : Int) 4)).toNat, by omega⟩
  have hM4 : M ≤ 4 := by omega
  obtain ⟨ρ', h, hρ⟩ := for_inv (tm := tmName 1) (body := C.b_law_k82_2_1) (vs := [1, 2, 3, 4, 5, 6, 7, 8]) (ws := []) (fun k : Nat => D.int (k : Nat)) (fun ρ => ρ = [some (.arg ns), none, none, none, none, none, none, none, none, none, none]) (List.range M) _ rfl fun ρ t hρ ht => by
    subst hρ
    have ht := List.mem_range.mp ht
    obtain ⟨b, hbox⟩ := box2_ok (ns := ns) (k := t) (by omega)
    obtain ⟨net, n1, hnet, ok⟩ := net2_ok (n := b) (most := 8) (by omega) (by omega)
    have hnet : C.g__law_net_2 [.lst [.int b], .int 8] = _ := hnet
    have g := ok.good (by omega)
    have hle := ok.le
    have hpos := ok.pos
    have hB := ok.tab
    obtain ⟨n2, ss, sg, hs, sl⟩ := law_sights30_ok (n := n1) g (by omega) (by omega) hB
    obtain ⟨n3, GS, db, hG, gl⟩ := law_doubled_ok (b := n2) (ss := ss) (m := net.length) (by omega) fun s h => (hs s h).1
    have t6 := take2_ok (n := n3) (m := 6) (by omega) (by omega)
    obtain ⟨n4, d4, sp, sn4⟩ := spoilt_ok (n := n3 / 6) (m := net.length) (ss := GS) (by omega) (by omega) hG (by omega)
    have snG := sn_sights (m := net.length) (ss := GS) (by omega) (by omega) hG
    have ln : lenD [dNet net] = .ok (.int net.length) := by simp
    -- the sights, spoilt or not
    obtain ⟨d, n5, sn, cs⟩ : ∃ (d : D) (n5 : Int), Sn d ∧ ((n3 % 6 = 1 ∧ d = d4 ∧ n5 = n4) ∨ (¬ n3 % 6 = 1 ∧ d = .lst (GS.map dS) ∧ n5 = n3 / 6)) := by
      by_cases c : n3 % 6 = 1
      · exact ⟨d4, n4, sn4, .inl ⟨c, rfl, rfl⟩⟩
      · exact ⟨_, n3 / 6, snG, .inr ⟨c, rfl, rfl⟩⟩
    have tk := take2_ok (n := n5) (m := net.length) (by omega) (by omega)
    obtain ⟨k, hk, hkl⟩ := dig_natQ (b := n5) (m := net.length) (by omega)
    rw [hk] at tk
    have is := law_is_seen_any (m := (net.length : Int)) sn
    have r26 : rng2D [.int 1, .int 6] = .ok ((List.range 5).map fun j : Nat => D.int (1 + (j : Nat))) := by
      rw [d_rng2, if_pos]
      · rfl
      · rw [rngOk_of (by omega) (by omega), rngOk_of (by omega) (by omega)]; rfl
    have z5 : szOk ((List.range 5).map fun j : Nat => D.int (1 + (j : Nat))).length = true := szOk_of (by simp)
    have z5b : ∀ b, szOk (fiveB b).length = true := fun b => szOk_of (by simp [fiveB])
    have mu := mul5
    have n5' := ne5
    have i5 := in5
    have nsn := ne_seen
    refine ⟨_, ?_, rfl, by simp⟩
    rcases tail82 (ns := net) (k := k) (d := d) (by omega) (by omega) hkl sn with ⟨c, ab, as⟩ | ⟨c, o, lf, as, ab⟩
    · rw [c] at is
      have a5 := ask5 (A := some (.arg ns)) (B := some (.int t)) (C2 := some (.lst [.int (n5 / net.length)])) (D2 := some seenS) ab ln
      unfold seenS at *
      simp only [turnF, C.b_law_k82_2_1]
      generalize C.e_law_k82_2_1 = E1 at *
      generalize C.e_law_k82_2_2 = E2 at *
      generalize ((List.range 5).map fun j : Nat => D.int (1 + (j : Nat))) = R5 at *
      generalize fiveB true = F5 at *
      generalize GS.map dS = GD at *
      generalize ss.map dS = SD at *
      generalize dNet net = N at *
      rcases cs with ⟨c1, rfl, rfl⟩ | ⟨c1, rfl, rfl⟩ <;> simp [hbox, hnet, sg, db, t6, c1, ln, sp, tk, as, r26, z5, a5, z5b, is, nsn, mu, n5', shAt, -d_lenT, -d_rng2, -d_mulL]
    · rw [c] at is
      have a5 := ask5 (A := some (.arg ns)) (B := some (.int t)) (C2 := some (.lst [.int (n5 / net.length)])) (D2 := some (cD o)) ab ln
      have nc := neD_refl (fit_cD (o := o))
      cases o with
      | none =>
        have a5 : cCompL (tmName 9) cYes C.e_law_k82_2_1 [9] [] ((List.range 5).map fun j : Nat => D.int (1 + (j : Nat))) _ = .ok (fiveB false, _) := a5
        simp only [cD] at *
        simp only [turnF, C.b_law_k82_2_1]
        generalize C.e_law_k82_2_1 = E1 at *
        generalize C.e_law_k82_2_2 = E2 at *
        generalize ((List.range 5).map fun j : Nat => D.int (1 + (j : Nat))) = R5 at *
        generalize fiveB true = F5 at *
        generalize fiveB false = G5 at *
        generalize GS.map dS = GD at *
        generalize ss.map dS = SD at *
        generalize dNet net = N at *
        rcases cs with ⟨c1, rfl, rfl⟩ | ⟨c1, rfl, rfl⟩ <;> simp [hbox, hnet, sg, db, t6, c1, ln, sp, tk, as, r26, z5, a5, z5b, is, lf, nc, i5, Y.isNon, shAt, -d_lenT, -d_rng2, -d_mulL]
      | some p =>
        have a5 : cCompL (tmName 9) cYes C.e_law_k82_2_1 [9] [] ((List.range 5).map fun j : Nat => D.int (1 + (j : Nat))) _ = .ok (fiveB true, _) := a5
        have c2 := comp_map (tm := tmName 10) (t := cYes) (e := C.e_law_k82_2_2) (vs := [10]) (ws := []) (ρ := [some (.arg ns), some (.int t), some (.lst [.int (n5 / net.length)]), some (dNet net), some d, some (.int (k : Nat)), some (.tup [.int (p.1 : Nat), .int (p.2 : Nat)]), some (.lst (fiveB true)), some (.tup [.int (p.1 : Nat), .int (p.2 : Nat)]), none, none]) (fun x : Int => D.int x) (fun _ => D.bl true) [(p.1 : Int), (p.2 : Int)] fun x hx => by
          have w := law_whole2_ok (i := x)
          simp only [turnC, C.e_law_k82_2_2]
          generalize fiveB true = F5
          generalize dNet net = N
          simp [w]
        have c2 : cCompL (tmName 10) cYes C.e_law_k82_2_2 [10] [] [D.int (p.1 : Nat), D.int (p.2 : Nat)] [some (.arg ns), some (.int t), some (.lst [.int (n5 / net.length)]), some (dNet net), some d, some (.int (k : Nat)), some (.tup [.int (p.1 : Nat), .int (p.2 : Nat)]), some (.lst (fiveB true)), some (.tup [.int (p.1 : Nat), .int (p.2 : Nat)]), none, none] = .ok ([.bl true, .bl true], _) := c2
        have al : allD [.lst [.bl true, .bl true]] = .ok (.bl true) := rfl
        have z2 : szOk 2 = true := szOk_of (by omega)
        simp only [cD] at *
        simp only [turnF, C.b_law_k82_2_1]
        generalize C.e_law_k82_2_1 = E1 at *
        generalize C.e_law_k82_2_2 = E2 at *
        generalize ((List.range 5).map fun j : Nat => D.int (1 + (j : Nat))) = R5 at *
        generalize fiveB true = F5 at *
        generalize GS.map dS = GD at *
        generalize ss.map dS = SD at *
        generalize dNet net = N at *
        rcases cs with ⟨c1, rfl, rfl⟩ | ⟨c1, rfl, rfl⟩ <;> simp [hbox, hnet, sg, db, t6, c1, ln, sp, tk, as, r26, z5, a5, z5b, is, lf, nc, mu, n5', c2, al, z2, Y.isNon, shAt, -d_lenT, -d_rng2, -d_mulL]
  subst hρ
  have rM : rngOk M = true := rngOk_of (by omega) (by omega)
  have zM : szOk M = true := szOk_of (by omega)
  refine ⟨.fr (.bl true), ?_, .inl rfl⟩
  simp only [C.g_law_k82_2, C.m_law_k82_2]
  simp [e_fnP, hM, rM, zM, h]
end H

set_option Elab.async false
set_option linter.all false
set_option maxRecDepth 100000
namespace K82
open PySem PySem.Spec PyProof.Rows L2 Y
def top (i : Nat) : Stmt := PySem.Challenge.pw_switchnets_k82_clashes.main.body.getD i (.Pass ⟨0, 0, 0, 0⟩)
abbrev s_is_whole : Stmt := top 15
theorem sc_is_whole : FnScope ["thing"] ["thing"] (defScope s_is_whole) := ⟨rfl, rfl, rfl, by decide +kernel, rfl, by decide +kernel, by decide +kernel⟩
abbrev s_is_upto : Stmt := top 16
theorem sc_is_upto : FnScope ["thing", "many"] ["thing", "many"] (defScope s_is_upto) := ⟨rfl, rfl, rfl, by decide +kernel, rfl, by decide +kernel, by decide +kernel⟩
abbrev s_are_bits : Stmt := top 17
theorem sc_are_bits : FnScope ["thing", "many", "one"] ["thing", "many"] (defScope s_are_bits) := ⟨rfl, rfl, rfl, by decide +kernel, rfl, by decide +kernel, by decide +kernel⟩
abbrev s_stands_of : Stmt := top 18
theorem sc_stands_of : FnScope ["many", "found", "k", "stand"] ["many"] (defScope s_stands_of) := ⟨rfl, rfl, rfl, by decide +kernel, rfl, by decide +kernel, by decide +kernel⟩
abbrev s_picked : Stmt := top 20
theorem sc_picked : FnScope ["things", "many", "found", "at", "rest"] ["things", "many"] (defScope s_picked) := ⟨rfl, rfl, rfl, by decide +kernel, rfl, by decide +kernel, by decide +kernel⟩
abbrev s_is_sight : Stmt := top 24
theorem sc_is_sight : FnScope ["many", "thing", "stand", "switch", "bit"] ["many", "thing"] (defScope s_is_sight) := ⟨rfl, rfl, rfl, by decide +kernel, rfl, by decide +kernel, by decide +kernel⟩
abbrev s_need_seen : Stmt := top 25
theorem sc_need_seen : FnScope ["many", "seen", "one"] ["many", "seen"] (defScope s_need_seen) := ⟨rfl, rfl, rfl, by decide +kernel, rfl, by decide +kernel, by decide +kernel⟩
abbrev s_first_clash : Stmt := top 26
theorem sc_first_clash : FnScope ["many", "seen", "one", "other"] ["many", "seen"] (defScope s_first_clash) := ⟨rfl, rfl, rfl, by decide +kernel, rfl, by decide +kernel, by decide +kernel⟩
abbrev s_need_no_clash : Stmt := top 27
theorem sc_need_no_clash : FnScope ["many", "seen"] ["many", "seen"] (defScope s_need_no_clash) := ⟨rfl, rfl, rfl, by decide +kernel, rfl, by decide +kernel, by decide +kernel⟩
abbrev s_read_by : Stmt := top 28
theorem sc_read_by : FnScope ["stand", "ears", "ear"] ["stand", "ears"] (defScope s_read_by) := ⟨rfl, rfl, rfl, by decide +kernel, rfl, by decide +kernel, by decide +kernel⟩
abbrev s_bits_by : Stmt := top 29
theorem sc_bits_by : FnScope ["seen", "switch", "ears", "found", "stand", "one", "bit"] ["seen", "switch", "ears"] (defScope s_bits_by) := ⟨rfl, rfl, rfl, by decide +kernel, rfl, by decide +kernel, by decide +kernel⟩
abbrev s_fewest_ears : Stmt := top 30
theorem sc_fewest_ears : FnScope ["many", "seen", "switch", "size", "ears"] ["many", "seen", "switch"] (defScope s_fewest_ears) := ⟨rfl, rfl, rfl, by decide +kernel, rfl, by decide +kernel, by decide +kernel⟩
abbrev s_rule_seen : Stmt := top 31
theorem sc_rule_seen : FnScope ["many", "seen", "switch", "ears", "bits", "reading"] ["many", "seen", "switch"] (defScope s_rule_seen) := ⟨rfl, rfl, rfl, by decide +kernel, rfl, by decide +kernel, by decide +kernel⟩
abbrev s_net_seen : Stmt := top 32
theorem sc_net_seen : FnScope ["many", "seen", "switch"] ["many", "seen"] (defScope s_net_seen) := ⟨rfl, rfl, rfl, by decide +kernel, rfl, by decide +kernel, by decide +kernel⟩
abbrev s_is_pair : Stmt := top 34
theorem sc_is_pair : FnScope ["seen", "switch", "thing", "one", "other", "place"] ["seen", "switch", "thing"] (defScope s_is_pair) := ⟨rfl, rfl, rfl, by decide +kernel, rfl, by decide +kernel, by decide +kernel⟩
abbrev s_unlike_in : Stmt := top 35
theorem sc_unlike_in : FnScope ["seen", "pair", "one", "other", "place", "switch"] ["seen", "pair"] (defScope s_unlike_in) := ⟨rfl, rfl, rfl, by decide +kernel, rfl, by decide +kernel, by decide +kernel⟩
abbrev s_least_through : Stmt := top 36
theorem sc_least_through : FnScope ["many", "sets", "size", "some", "one", "switch"] ["many", "sets"] (defScope s_least_through) := ⟨rfl, rfl, rfl, by decide +kernel, rfl, by decide +kernel, by decide +kernel⟩
abbrev s_ears_shown : Stmt := top 37
theorem sc_ears_shown : FnScope ["many", "seen", "switch", "thing", "pair"] ["many", "seen", "switch", "thing"] (defScope s_ears_shown) := ⟨rfl, rfl, rfl, by decide +kernel, rfl, by decide +kernel, by decide +kernel⟩
abbrev s_is_least : Stmt := top 38
theorem sc_is_least : FnScope ["sets", "one", "other", "switch"] ["sets", "one"] (defScope s_is_least) := ⟨rfl, rfl, rfl, by decide +kernel, rfl, by decide +kernel, by decide +kernel⟩
abbrev s_ear_paper : Stmt := top 39
theorem sc_ear_paper : FnScope ["many", "seen", "switch", "pairs", "one", "other", "some", "pair"] ["many", "seen", "switch"] (defScope s_ear_paper) := ⟨rfl, rfl, rfl, by decide +kernel, rfl, by decide +kernel, by decide +kernel⟩
abbrev s__law_cell : Stmt := top 41
theorem sc__law_cell : FnScope ["script", "k"] ["script", "k"] (defScope s__law_cell) := ⟨rfl, rfl, rfl, by decide +kernel, rfl, by decide +kernel, by decide +kernel⟩
abbrev s__law_box : Stmt := top 42
theorem sc__law_box : FnScope ["script", "k", "cell", "number", "mixed", "j"] ["script", "k"] (defScope s__law_box) := ⟨rfl, rfl, rfl, by decide +kernel, rfl, by decide +kernel, by decide +kernel⟩
abbrev s__law_take : Stmt := top 43
theorem sc__law_take : FnScope ["box", "many", "digit"] ["box", "many"] (defScope s__law_take) := ⟨rfl, rfl, rfl, by decide +kernel, rfl, by decide +kernel, by decide +kernel⟩
abbrev s__law_readings : Stmt := top 44
theorem sc__law_readings : FnScope ["many", "found", "k", "row"] ["many"] (defScope s__law_readings) := ⟨rfl, rfl, rfl, by decide +kernel, rfl, by decide +kernel, by decide +kernel⟩
abbrev s__law_rule : Stmt := top 45
theorem sc__law_rule : FnScope ["box", "many", "left", "ears", "k", "rows", "way", "signs", "least", "table", "ear", "row"] ["box", "many"] (defScope s__law_rule) := ⟨rfl, rfl, rfl, by decide +kernel, rfl, by decide +kernel, by decide +kernel⟩
abbrev s__law_net : Stmt := top 46
theorem sc__law_net : FnScope ["box", "most", "many", "k"] ["box", "most"] (defScope s__law_net) := ⟨rfl, rfl, rfl, by decide +kernel, rfl, by decide +kernel, by decide +kernel⟩
abbrev s__law_told : Stmt := top 47
theorem sc__law_told : FnScope ["net", "stand", "k", "ears", "table", "place", "ear"] ["net", "stand", "k"] (defScope s__law_told) := ⟨rfl, rfl, rfl, by decide +kernel, rfl, by decide +kernel, by decide +kernel⟩
abbrev s__law_bits : Stmt := top 48
theorem sc__law_bits : FnScope ["thing", "many", "one"] ["thing", "many"] (defScope s__law_bits) := ⟨rfl, rfl, rfl, by decide +kernel, rfl, by decide +kernel, by decide +kernel⟩
abbrev s__law_whole : Stmt := top 49
theorem sc__law_whole : FnScope ["thing"] ["thing"] (defScope s__law_whole) := ⟨rfl, rfl, rfl, by decide +kernel, rfl, by decide +kernel, by decide +kernel⟩
abbrev s__law_sights : Stmt := top 50
theorem sc__law_sights : FnScope ["box", "net", "most", "found", "turn", "stand", "at", "k", "one"] ["box", "net", "most"] (defScope s__law_sights) := ⟨rfl, rfl, rfl, by decide +kernel, rfl, by decide +kernel, by decide +kernel⟩
abbrev s__law_is_seen : Stmt := top 51
theorem sc__law_is_seen : FnScope ["many", "seen", "one"] ["many", "seen"] (defScope s__law_is_seen) := ⟨rfl, rfl, rfl, by decide +kernel, rfl, by decide +kernel, by decide +kernel⟩
abbrev s__law_spoilt : Stmt := top 52
theorem sc__law_spoilt : FnScope ["box", "seen", "many", "at", "stand", "k", "bit", "some"] ["box", "seen", "many"] (defScope s__law_spoilt) := ⟨rfl, rfl, rfl, by decide +kernel, rfl, by decide +kernel, by decide +kernel⟩
abbrev s__law_kind : Stmt := top 53
theorem sc__law_kind : FnScope ["e", "kinds", "words", "kind"] ["e"] (defScope s__law_kind) := ⟨rfl, rfl, rfl, by decide +kernel, rfl, by decide +kernel, by decide +kernel⟩
abbrev s__law_asked : Stmt := top 54
theorem sc__law_asked : FnScope ["way", "many", "seen", "k", "e"] ["way", "many", "seen", "k"] (defScope s__law_asked) := ⟨rfl, rfl, rfl, by decide +kernel, rfl, by decide +kernel, by decide +kernel⟩
abbrev s__law_first : Stmt := top 55
theorem sc__law_first : FnScope ["seen", "i", "j"] ["seen"] (defScope s__law_first) := ⟨rfl, rfl, rfl, by decide +kernel, rfl, by decide +kernel, by decide +kernel⟩
abbrev s__law_doubled : Stmt := top 56
theorem sc__law_doubled : FnScope ["box", "seen", "found", "turn", "stand", "k", "bit"] ["box", "seen"] (defScope s__law_doubled) := ⟨rfl, rfl, rfl, by decide +kernel, rfl, by decide +kernel, by decide +kernel⟩
abbrev s_law : Stmt := top 57
theorem sc_law : FnScope ["script", "turn", "box", "net", "seen", "k", "found", "refused", "due", "way", "place"] ["script"] (defScope s_law) := ⟨rfl, rfl, rfl, by decide +kernel, rfl, by decide +kernel, by decide +kernel⟩
structure Txt (K : PySem.W.Frag) (mg : Str → Option Value) : Prop where
  d_is_whole : Def K mg "is_whole" s_is_whole
  d_is_upto : Def K mg "is_upto" s_is_upto
  d_are_bits : Def K mg "are_bits" s_are_bits
  d_stands_of : Def K mg "stands_of" s_stands_of
  d_picked : Def K mg "picked" s_picked
  d_is_sight : Def K mg "is_sight" s_is_sight
  d_need_seen : Def K mg "need_seen" s_need_seen
  d_first_clash : Def K mg "first_clash" s_first_clash
  d_need_no_clash : Def K mg "need_no_clash" s_need_no_clash
  d_read_by : Def K mg "read_by" s_read_by
  d_bits_by : Def K mg "bits_by" s_bits_by
  d_fewest_ears : Def K mg "fewest_ears" s_fewest_ears
  d_rule_seen : Def K mg "rule_seen" s_rule_seen
  d_net_seen : Def K mg "net_seen" s_net_seen
  d_is_pair : Def K mg "is_pair" s_is_pair
  d_unlike_in : Def K mg "unlike_in" s_unlike_in
  d_least_through : Def K mg "least_through" s_least_through
  d_ears_shown : Def K mg "ears_shown" s_ears_shown
  d_is_least : Def K mg "is_least" s_is_least
  d_ear_paper : Def K mg "ear_paper" s_ear_paper
  d__law_cell : Def K mg "_law_cell" s__law_cell
  d__law_box : Def K mg "_law_box" s__law_box
  d__law_take : Def K mg "_law_take" s__law_take
  d__law_readings : Def K mg "_law_readings" s__law_readings
  d__law_rule : Def K mg "_law_rule" s__law_rule
  d__law_net : Def K mg "_law_net" s__law_net
  d__law_told : Def K mg "_law_told" s__law_told
  d__law_bits : Def K mg "_law_bits" s__law_bits
  d__law_whole : Def K mg "_law_whole" s__law_whole
  d__law_sights : Def K mg "_law_sights" s__law_sights
  d__law_is_seen : Def K mg "_law_is_seen" s__law_is_seen
  d__law_spoilt : Def K mg "_law_spoilt" s__law_spoilt
  d__law_kind : Def K mg "_law_kind" s__law_kind
  d__law_asked : Def K mg "_law_asked" s__law_asked
  d__law_first : Def K mg "_law_first" s__law_first
  d__law_doubled : Def K mg "_law_doubled" s__law_doubled
  k_MOST_EARS : ∃ t, mg "MOST_EARS" = some (.int 4 t)
  k_MOST_SEEN : ∃ t, mg "MOST_SEEN" = some (.int 200 t)
  e_NoSeen : ErrT K mg "NoSeen"
  e_TooMany : ErrT K mg "TooMany"
  z_ValueError : mg "ValueError" = none
  z_all : mg "all" = none
  z_any : mg "any" = none
  z_bool : mg "bool" = none
  z_int : mg "int" = none
  z_isinstance : mg "isinstance" = none
  z_len : mg "len" = none
  z_list : mg "list" = none
  z_max : mg "max" = none
  z_min : mg "min" = none
  z_range : mg "range" = none
  z_sorted : mg "sorted" = none
  z_sum : mg "sum" = none
  z_tuple : mg "tuple" = none
  cat__law_asked_1 : CatF K mg ["NoSeen", "TooMany"] "NetError"
  zz__law_asked_1 : ∀ c ∈ (["NoSeen", "TooMany"] : List Str), ErrZ K mg c
  cat_zkind : CatF K mg ["NoSeen", "TooMany"] "NetError"
  zz_zkind : ∀ c ∈ (["NoSeen", "TooMany"] : List Str), ErrZ K mg c
  v_zkind : IsV K mg ["NoSeen", "TooMany"]
  is_zkind_Hears : IsF K mg ["NoSeen", "TooMany"] "Hears" (isErr "Hears")
  is_zkind_NoDen : IsF K mg ["NoSeen", "TooMany"] "NoDen" (isErr "NoDen")
  is_zkind_NoFrame : IsF K mg ["NoSeen", "TooMany"] "NoFrame" (isErr "NoFrame")
  is_zkind_NoHolds : IsF K mg ["NoSeen", "TooMany"] "NoHolds" (isErr "NoHolds")
  is_zkind_NoOrder : IsF K mg ["NoSeen", "TooMany"] "NoOrder" (isErr "NoOrder")
  is_zkind_NoRow : IsF K mg ["NoSeen", "TooMany"] "NoRow" (isErr "NoRow")
  is_zkind_NoRule : IsF K mg ["NoSeen", "TooMany"] "NoRule" (isErr "NoRule")
  is_zkind_NoSeen : IsF K mg ["NoSeen", "TooMany"] "NoSeen" (isErr "NoSeen")
  is_zkind_NoStand : IsF K mg ["NoSeen", "TooMany"] "NoStand" (isErr "NoStand")
  is_zkind_NoSwitch : IsF K mg ["NoSeen", "TooMany"] "NoSwitch" (isErr "NoSwitch")
  is_zkind_NoText : IsF K mg ["NoSeen", "TooMany"] "NoText" (isErr "NoText")
  is_zkind_TooMany : IsF K mg ["NoSeen", "TooMany"] "TooMany" (isErr "TooMany")
section
variable {P : Program} {w : World} {K : PySem.W.Frag} {mg : Str → Option Value} {base : Heap}
theorem ok_is_whole (T : Txt K mg) : Glo P w K mg base "is_whole" 1 1 [] (pureF C.g_is_whole) :=
  (glo_mk (O := []) (Oc := []) (W := []) (U := []) T.d_is_whole sc_is_whole (fun f cdv A outer s H E P0 hr => (cs_one (cs_ret (ce_and (ce_isi isk_int T.z_isinstance T.z_int (ce_var 0) bo_isinstance bo_int) (ce_one (ce_not (ce_isi isk_bool T.z_isinstance T.z_bool (ce_var 0) bo_isinstance bo_bool))))))) (fun _ _ _ _ _ _ us hl => match us, hl with | [_], _ => rfl)).pure
theorem ok_is_upto (T : Txt K mg) : Glo P w K mg base "is_upto" 2 2 [] (pureF C.g_is_upto) :=
  (glo_mk (O := []) (Oc := []) (W := []) (U := []) T.d_is_upto sc_is_upto (fun f cdv A outer s H E P0 hr => (cs_one (cs_ret (ce_and (ce_call (ok_is_whole T) out2_body (hr.mono (by decide)) (ca_cons (ce_var 0) ca_nil) (alen_cons alen_nil)) (ce_one (ce_chain od_le od_lt ce_int (ce_var 0) (ce_var 1))))))) (fun _ _ _ _ _ _ us hl => match us, hl with | [_, _], _ => rfl)).pure
theorem ok_are_bits (T : Txt K mg) : Glo P w K mg base "are_bits" 3 2 [] (pureF C.g_are_bits) :=
  (glo_mk (O := []) (Oc := []) (W := []) (U := []) T.d_are_bits sc_are_bits (fun f cdv A outer s H E P0 hr => (cs_one (cs_ret (ce_and (ce_isi isk_tuple T.z_isinstance T.z_tuple (ce_var 0) bo_isinstance bo_tuple) (ce_and (ce_cmp (od_eq hr.units) (ce_callB cd_len T.z_len bo_len (ca_cons (ce_var 0) ca_nil)) (ce_var 1)) (ce_one (ce_callB (cd_all rfl) T.z_all bo_all (ca_cons (ce_comp rfl sc_are_bits.nd (ci_any (ce_var 0)) (blkOk_by (own := [("one", 2)]) (by kernel_rfl)) (fun P0 s H C cl fp => (cg_name 2 sc_are_bits.nd)) (fun s H C cl fp => cts_nil) (fun P0 s H C cl fp => (ce_call (ok_is_upto T) Out2.blk (hr.mono (by decide)) (ca_cons (ce_var 2) (ca_cons ce_int ca_nil)) (alen_cons (alen_cons alen_nil))))) ca_nil)))))))) (fun _ _ _ _ _ _ us hl => match us, hl with | [_, _], _ => rfl)).pure
theorem ok_stands_of (T : Txt K mg) : Glo P w K mg base "stands_of" 1 1 [] (pureF C.g_stands_of) :=
  (glo_mk (O := []) (Oc := []) (W := []) (U := []) T.d_stands_of sc_stands_of (fun f cdv A outer s H E P0 hr => (cs_cons (cs_asg (ce_lst (ca_cons (ce_tup ca_nil) ca_nil)) (cg_name 1 sc_stands_of.nd))
    (cs_cons (cs_for (U' := []) (vs := [2]) (passes_of rfl) rfl (ci_range1 T.z_range (ca_cons (ce_var 0) ca_nil)) (cg_name 2 sc_stands_of.nd) (cs_one (cs_asg (ce_bin od_add (ce_comp rfl sc_stands_of.nd (ci_any (ce_var 1)) (blkOk_by (own := [("stand", 3)]) (by kernel_rfl)) (fun P0 s H C cl fp => (cg_name 3 sc_stands_of.nd)) (fun s H C cl fp => cts_nil) (fun P0 s H C cl fp => (ce_bin od_add (ce_tup (ca_cons ce_int ca_nil)) (ce_var 3)))) (ce_comp rfl sc_stands_of.nd (ci_any (ce_var 1)) (blkOk_by (own := [("stand", 3)]) (by kernel_rfl)) (fun P0 s H C cl fp => (cg_name 3 sc_stands_of.nd)) (fun s H C cl fp => cts_nil) (fun P0 s H C cl fp => (ce_bin od_add (ce_tup (ca_cons ce_int ca_nil)) (ce_var 3))))) (cg_name 1 sc_stands_of.nd))))
    (cs_one (cs_ret (ce_var 1)))))) (fun _ _ _ _ _ _ us hl => match us, hl with | [_], _ => rfl)).pure
theorem okr_picked (T : Txt K mg) : ∀ n : Nat, Glo P w K mg base "picked" (1 + n) 2 [] ((pureF (C.r_picked n)))
  | 0 => (glo_mk (k := 0) (O := []) (Oc := [2]) (W := []) (U := []) T.d_picked sc_picked (fun f cdv A outer s H E P0 hr => cs_stk) (fun _ _ _ _ _ _ us hl => match us, hl with | [_, _], _ => rfl)).pure
  | n + 1 => have IH := okr_picked T n; (glo_mk (k := 1 + n) (O := []) (Oc := [2]) (W := []) (U := []) T.d_picked sc_picked (fun f cdv A outer s H E P0 hr => (cs_cons (cs_if (ct_cmp (od_eq hr.units) (ce_var 1) ce_int) (cs_one (cs_ret (ce_lst (ca_cons (ce_tup ca_nil) ca_nil)))) cs_nil)
    (cs_cons (cs_own (i := 2) sc_picked.nd (ce_lst ca_nil))
    (cs_cons (cs_for (U' := []) (vs := [3]) (passes_of rfl) rfl (ci_range1 T.z_range (ca_cons (ce_callB cd_len T.z_len bo_len (ca_cons (ce_var 0) ca_nil)) ca_nil)) (cg_name 3 sc_picked.nd) (cs_one (cs_ext (i := 2) (ce_comp rfl sc_picked.nd (ci_any (ce_call IH out2_body hr (ca_cons (ce_slice (ce_var 0) (co_some (ce_bin od_add (ce_var 3) ce_int)) co_none) (ca_cons (ce_bin od_sub (ce_var 1) ce_int) ca_nil)) (alen_cons (alen_cons alen_nil)))) (blkOk_by (own := [("rest", 4)]) (by kernel_rfl)) (fun P0 s H C cl fp => (cg_name 4 sc_picked.nd)) (fun s H C cl fp => cts_nil) (fun P0 s H C cl fp => (ce_bin od_add (ce_tup (ca_cons (ce_ix (ce_var 0) (ce_var 3)) ca_nil)) (ce_var 4)))))))
    (cs_one (cs_ret (ce_own 2))))))) (fun _ _ _ _ _ _ us hl => match us, hl with | [_, _], _ => rfl)).pure
theorem ok_picked (T : Txt K mg) : Glo P w K mg base "picked" (41) 2 [] ((pureF C.g_picked)) := okr_picked T 40
theorem ok_is_sight (T : Txt K mg) : Glo P w K mg base "is_sight" 4 2 [] (pureF C.g_is_sight) :=
  (glo_mk (O := []) (Oc := []) (W := []) (U := []) T.d_is_sight sc_is_sight (fun f cdv A outer s H E P0 hr => (cs_cons (cs_if (ct_w (cw_or (ct_not (ct_val (ce_isi isk_tuple T.z_isinstance T.z_tuple (ce_var 1) bo_isinstance bo_tuple))) (cw_or1 (ct_cmp (od_ne hr.units) (ce_callB cd_len T.z_len bo_len (ca_cons (ce_var 1) ca_nil)) ce_int)))) (cs_one (cs_ret ce_bl)) cs_nil)
    (cs_cons (cs_asg (ce_var 1) (cg_tup [2, 3, 4] rfl (cgs_cons 2 sc_is_sight.nd (cgs_cons 3 sc_is_sight.nd (cgs_cons 4 sc_is_sight.nd cgs_nil)))))
    (cs_one (cs_ret (ce_and (ce_call (ok_are_bits T) out2_body (hr.mono (by decide)) (ca_cons (ce_var 2) (ca_cons (ce_var 0) ca_nil)) (alen_cons (alen_cons alen_nil))) (ce_and (ce_call (ok_is_upto T) out2_body (hr.mono (by decide)) (ca_cons (ce_var 3) (ca_cons (ce_var 0) ca_nil)) (alen_cons (alen_cons alen_nil))) (ce_one (ce_call (ok_is_upto T) out2_body (hr.mono (by decide)) (ca_cons (ce_var 4) (ca_cons ce_int ca_nil)) (alen_cons (alen_cons alen_nil))))))))))) (fun _ _ _ _ _ _ us hl => match us, hl with | [_, _], _ => rfl)).pure
theorem ok_need_seen (T : Txt K mg) : Glo P w K mg base "need_seen" 5 2 [] (pureF C.g_need_seen) :=
  (glo_mk (O := []) (Oc := []) (W := []) (U := []) T.d_need_seen sc_need_seen (fun f cdv A outer s H E P0 hr => (cs_one (cs_if (ct_w (cw_or (ct_not (ct_val (ce_isi isk_list T.z_isinstance T.z_list (ce_var 1) bo_isinstance bo_list))) (cw_or (ct_cmp od_gt (ce_callB cd_len T.z_len bo_len (ca_cons (ce_var 1) ca_nil)) (ce_globI T.k_MOST_SEEN)) (cw_or1 (ct_not (ct_val (ce_callB (cd_all rfl) T.z_all bo_all (ca_cons (ce_comp rfl sc_need_seen.nd (ci_any (ce_var 1)) (blkOk_by (own := [("one", 2)]) (by kernel_rfl)) (fun P0 s H C cl fp => (cg_name 2 sc_need_seen.nd)) (fun s H C cl fp => cts_nil) (fun P0 s H C cl fp => (ce_call (ok_is_sight T) Out2.blk (hr.mono (by decide)) (ca_cons (ce_var 0) (ca_cons (ce_var 2) ca_nil)) (alen_cons (alen_cons alen_nil))))) ca_nil)))))))) (cs_one (cs_raise T.e_NoSeen rfl (L2N.takes_of rfl rfl rfl rfl))) cs_nil))) (fun _ _ _ _ _ _ us hl => match us, hl with | [_, _], _ => rfl)).pure
theorem ok_first_clash (T : Txt K mg) : Glo P w K mg base "first_clash" 6 2 [] (pureF C.g_first_clash) :=
  (glo_mk (O := []) (Oc := []) (W := []) (U := []) T.d_first_clash sc_first_clash (fun f cdv A outer s H E P0 hr => (cs_cons (cs_expr (ce_call (ok_need_seen T) out2_body (hr.mono (by decide)) (ca_cons (ce_var 0) (ca_cons (ce_var 1) ca_nil)) (alen_cons (alen_cons alen_nil))))
    (cs_cons (cs_for (U' := []) (vs := [2, 3]) (passes_of rfl) rfl (ci_range1 T.z_range (ca_cons (ce_callB cd_len T.z_len bo_len (ca_cons (ce_var 1) ca_nil)) ca_nil)) (cg_name 2 sc_first_clash.nd) (cs_one (cs_for (U' := []) (vs := [3]) (passes_of rfl) rfl (ci_range2 T.z_range (ca_cons (ce_bin od_add (ce_var 2) ce_int) (ca_cons (ce_callB cd_len T.z_len bo_len (ca_cons (ce_var 1) ca_nil)) ca_nil))) (cg_name 3 sc_first_clash.nd) (cs_one (cs_if (ct_w (cw_and (ct_cmp (od_eq hr.units) (ce_slice (ce_ix (ce_var 1) (ce_var 2)) co_none (co_some ce_int)) (ce_slice (ce_ix (ce_var 1) (ce_var 3)) co_none (co_some ce_int))) (cw_and1 (ct_cmp (od_ne hr.units) (ce_ix (ce_ix (ce_var 1) (ce_var 2)) ce_int) (ce_ix (ce_ix (ce_var 1) (ce_var 3)) ce_int))))) (cs_one (cs_ret (ce_tup (ca_cons (ce_var 2) (ca_cons (ce_var 3) ca_nil))))) cs_nil)))))
    (cs_one (cs_ret ce_non))))) (fun _ _ _ _ _ _ us hl => match us, hl with | [_, _], _ => rfl)).pure
theorem ok_need_no_clash (T : Txt K mg) : Glo P w K mg base "need_no_clash" 7 2 [] (pureF C.g_need_no_clash) :=
  (glo_mk (O := []) (Oc := []) (W := []) (U := []) T.d_need_no_clash sc_need_no_clash (fun f cdv A outer s H E P0 hr => (cs_one (cs_if (ct_cmp od_isnot (ce_call (ok_first_clash T) out2_body (hr.mono (by decide)) (ca_cons (ce_var 0) (ca_cons (ce_var 1) ca_nil)) (alen_cons (alen_cons alen_nil))) ce_non) (cs_one (cs_raise T.e_NoSeen rfl (L2N.takes_of rfl rfl rfl rfl))) cs_nil))) (fun _ _ _ _ _ _ us hl => match us, hl with | [_, _], _ => rfl)).pure
theorem ok_read_by (T : Txt K mg) : Glo P w K mg base "read_by" 1 2 [] (pureF C.g_read_by) :=
  (glo_mk (O := []) (Oc := []) (W := []) (U := []) T.d_read_by sc_read_by (fun f cdv A outer s H E P0 hr => (cs_one (cs_ret (ce_callT cd_tuple T.z_tuple bo_tuple (ca_cons (ce_comp rfl sc_read_by.nd (ci_any (ce_var 1)) (blkOk_by (own := [("ear", 2)]) (by kernel_rfl)) (fun P0 s H C cl fp => (cg_name 2 sc_read_by.nd)) (fun s H C cl fp => cts_nil) (fun P0 s H C cl fp => (ce_ix (ce_var 0) (ce_var 2)))) ca_nil))))) (fun _ _ _ _ _ _ us hl => match us, hl with | [_, _], _ => rfl)).pure
theorem ok_bits_by (T : Txt K mg) : Glo P w K mg base "bits_by" 2 3 [] (pureF C.g_bits_by) :=
  (glo_mk (O := []) (Oc := [3]) (W := [3]) (U := []) T.d_bits_by sc_bits_by (fun f cdv A outer s H E P0 hr => (cs_cons (cs_dicnew (i := 3) sc_bits_by.nd)
    (cs_cons (cs_for (U' := []) (vs := [4, 5, 6]) (passes_of rfl) rfl (ci_any (ce_var 0)) (cg_tup [4, 5, 6] rfl (cgs_cons 4 sc_bits_by.nd (cgs_cons 5 sc_bits_by.nd (cgs_cons 6 sc_bits_by.nd cgs_nil)))) (cs_one (cs_if (ct_w (cw_and (ct_cmp (od_eq hr.units) (ce_var 5) (ce_var 1)) (cw_and1 (ct_cmp (od_ne hr.units) (ce_setd (i := 3) (Nat.lt_of_le_of_lt (Nat.add_le_add_left (by decide) _) hr.units65) (ce_call (ok_read_by T) out2_body (hr.mono (by decide)) (ca_cons (ce_var 4) (ca_cons (ce_var 2) ca_nil)) (alen_cons (alen_cons alen_nil))) (ce_var 6)) (ce_var 6))))) (cs_one (cs_ret ce_non)) cs_nil)))
    (cs_one (cs_ret (ce_own 3)))))) (fun _ _ _ _ _ _ us hl => match us, hl with | [_, _, _], _ => rfl)).pure
theorem ok_fewest_ears (T : Txt K mg) : Glo P w K mg base "fewest_ears" 42 3 [] (pureF C.g_fewest_ears) :=
  (glo_mk (O := []) (Oc := []) (W := []) (U := []) T.d_fewest_ears sc_fewest_ears (fun f cdv A outer s H E P0 hr => (cs_cons (cs_expr (ce_call (ok_need_no_clash T) out2_body (hr.mono (by decide)) (ca_cons (ce_var 0) (ca_cons (ce_var 1) ca_nil)) (alen_cons (alen_cons alen_nil))))
    (cs_cons (cs_for (U' := []) (vs := [3, 4]) (passes_of rfl) rfl (ci_range1 T.z_range (ca_cons (ce_bin od_add (ce_callB (cd_min rfl) T.z_min bo_min (ca_cons (ce_var 0) (ca_cons (ce_globI T.k_MOST_EARS) ca_nil))) ce_int) ca_nil)) (cg_name 3 sc_fewest_ears.nd) (cs_one (cs_for (U' := []) (vs := [4]) (passes_of rfl) rfl (ci_any (ce_call (ok_picked T) out2_body (hr.mono (by decide)) (ca_cons (ce_lrg1 rfl T.z_list T.z_range (ce_var 0)) (ca_cons (ce_var 3) ca_nil)) (alen_cons (alen_cons alen_nil)))) (cg_name 4 sc_fewest_ears.nd) (cs_one (cs_if (ct_cmp od_isnot (ce_call (ok_bits_by T) out2_body (hr.mono (by decide)) (ca_cons (ce_var 1) (ca_cons (ce_var 2) (ca_cons (ce_var 4) ca_nil))) (alen_cons (alen_cons (alen_cons alen_nil)))) ce_non) (cs_one (cs_ret (ce_var 4))) cs_nil)))))
    (cs_one (cs_raise T.e_TooMany rfl (L2N.takes_of rfl rfl rfl rfl)))))) (fun _ _ _ _ _ _ us hl => match us, hl with | [_, _, _], _ => rfl)).pure
theorem ok_rule_seen (T : Txt K mg) : Glo P w K mg base "rule_seen" 43 3 [] (pureF C.g_rule_seen) :=
  (glo_mk (O := []) (Oc := []) (W := []) (U := []) T.d_rule_seen sc_rule_seen (fun f cdv A outer s H E P0 hr => (cs_cons (cs_asg (ce_call (ok_fewest_ears T) out2_body (hr.mono (by decide)) (ca_cons (ce_var 0) (ca_cons (ce_var 1) (ca_cons (ce_var 2) ca_nil))) (alen_cons (alen_cons (alen_cons alen_nil)))) (cg_name 3 sc_rule_seen.nd))
    (cs_cons (cs_asg (ce_call (ok_bits_by T) out2_body (hr.mono (by decide)) (ca_cons (ce_var 1) (ca_cons (ce_var 2) (ca_cons (ce_var 3) ca_nil))) (alen_cons (alen_cons (alen_cons alen_nil)))) (cg_name 4 sc_rule_seen.nd))
    (cs_one (cs_ret (ce_tup (ca_cons (ce_var 3) (ca_cons (ce_callT cd_tuple T.z_tuple bo_tuple (ca_cons (ce_comp rfl sc_rule_seen.nd (ci_any (ce_call (ok_stands_of T) out2_body (hr.mono (by decide)) (ca_cons (ce_callB cd_len T.z_len bo_len (ca_cons (ce_var 3) ca_nil)) ca_nil) (alen_cons alen_nil))) (blkOk_by (own := [("reading", 5)]) (by kernel_rfl)) (fun P0 s H C cl fp => (cg_name 5 sc_rule_seen.nd)) (fun s H C cl fp => cts_nil) (fun P0 s H C cl fp => (ce_getD (Nat.lt_of_le_of_lt (Nat.add_le_add_left (by decide) _) hr.units65) (ce_var 4) (ce_var 5) ce_int))) ca_nil)) ca_nil)))))))) (fun _ _ _ _ _ _ us hl => match us, hl with | [_, _, _], _ => rfl)).pure
theorem ok_net_seen (T : Txt K mg) : Glo P w K mg base "net_seen" 44 2 [] (pureF C.g_net_seen_2) :=
  (glo_mk (O := []) (Oc := []) (W := []) (U := []) T.d_net_seen sc_net_seen (fun f cdv A outer s H E P0 hr => (cs_one (cs_ret (ce_callT cd_tuple T.z_tuple bo_tuple (ca_cons (ce_compY rfl rfl (L2N.takes_of rfl rfl rfl rfl) out2_body rfl sc_net_seen.nd (ci_range1 T.z_range (ca_cons (ce_var 0) ca_nil)) (blkOk_by (own := [("switch", 2)]) (by kernel_rfl)) (fun P0 s H C cl fp => (cg_name 2 sc_net_seen.nd)) (fun P0 s H C cl fp E1 o => (ce_call (ok_rule_seen T) o (hr.mono (by decide)) (ca_cons (ce_var 0) (ca_cons (ce_var 1) (ca_cons (ce_var 2) ca_nil))) (alen_cons (alen_cons (alen_cons alen_nil)))))) ca_nil))))) (fun _ _ _ _ _ _ us hl => match us, hl with | [_, _], _ => rfl)).pure
theorem ok_is_pair (T : Txt K mg) : Glo P w K mg base "is_pair" 3 3 [] (pureF C.g_is_pair) :=
  (glo_mk (O := []) (Oc := []) (W := []) (U := []) T.d_is_pair sc_is_pair (fun f cdv A outer s H E P0 hr => (cs_cons (cs_if (ct_w (cw_or (ct_not (ct_val (ce_isi isk_tuple T.z_isinstance T.z_tuple (ce_var 2) bo_isinstance bo_tuple))) (cw_or (ct_cmp (od_ne hr.units) (ce_callB cd_len T.z_len bo_len (ca_cons (ce_var 2) ca_nil)) ce_int) (cw_or1 (ct_not (ct_val (ce_callB (cd_all rfl) T.z_all bo_all (ca_cons (ce_comp rfl sc_is_pair.nd (ci_any (ce_var 2)) (blkOk_by (own := [("one", 3)]) (by kernel_rfl)) (fun P0 s H C cl fp => (cg_name 3 sc_is_pair.nd)) (fun s H C cl fp => cts_nil) (fun P0 s H C cl fp => (ce_call (ok_is_upto T) Out2.blk (hr.mono (by decide)) (ca_cons (ce_var 3) (ca_cons (ce_callB cd_len T.z_len bo_len (ca_cons (ce_var 0) ca_nil)) ca_nil)) (alen_cons (alen_cons alen_nil))))) ca_nil)))))))) (cs_one (cs_ret ce_bl)) cs_nil)
    (cs_cons (cs_asg (ce_comp rfl sc_is_pair.nd (ci_any (ce_var 2)) (blkOk_by (own := [("place", 5)]) (by kernel_rfl)) (fun P0 s H C cl fp => (cg_name 5 sc_is_pair.nd)) (fun s H C cl fp => cts_nil) (fun P0 s H C cl fp => (ce_ix (ce_var 0) (ce_var 5)))) (cg_lst [3, 4] rfl (cgs_cons 3 sc_is_pair.nd (cgs_cons 4 sc_is_pair.nd cgs_nil))))
    (cs_one (cs_ret (ce_and (ce_cmp (od_eq hr.units) (ce_ix (ce_var 3) ce_int) (ce_var 1)) (ce_and (ce_cmp (od_eq hr.units) (ce_ix (ce_var 4) ce_int) (ce_var 1)) (ce_one (ce_cmp (od_ne hr.units) (ce_ix (ce_var 3) ce_int) (ce_ix (ce_var 4) ce_int)))))))))) (fun _ _ _ _ _ _ us hl => match us, hl with | [_, _, _], _ => rfl)).pure
theorem ok_unlike_in (T : Txt K mg) : Glo P w K mg base "unlike_in" 1 2 [] (pureF C.g_unlike_in) :=
  (glo_mk (O := []) (Oc := []) (W := []) (U := []) T.d_unlike_in sc_unlike_in (fun f cdv A outer s H E P0 hr => (cs_cons (cs_asg (ce_comp rfl sc_unlike_in.nd (ci_any (ce_var 1)) (blkOk_by (own := [("place", 4)]) (by kernel_rfl)) (fun P0 s H C cl fp => (cg_name 4 sc_unlike_in.nd)) (fun s H C cl fp => cts_nil) (fun P0 s H C cl fp => (ce_ix (ce_ix (ce_var 0) (ce_var 4)) ce_int))) (cg_lst [2, 3] rfl (cgs_cons 2 sc_unlike_in.nd (cgs_cons 3 sc_unlike_in.nd cgs_nil))))
    (cs_one (cs_ret (ce_callT cd_tuple T.z_tuple bo_tuple (ca_cons (ce_comp rfl sc_unlike_in.nd (ci_range1 T.z_range (ca_cons (ce_callB cd_len T.z_len bo_len (ca_cons (ce_var 2) ca_nil)) ca_nil)) (blkOk_by (own := [("switch", 5)]) (by kernel_rfl)) (fun P0 s H C cl fp => (cg_name 5 sc_unlike_in.nd)) (fun s H C cl fp => (cts_one fun P0 => (ct_cmp (od_ne hr.units) (ce_ix (ce_var 2) (ce_var 5)) (ce_ix (ce_var 3) (ce_var 5))))) (fun P0 s H C cl fp => (ce_var 5))) ca_nil)))))) (fun _ _ _ _ _ _ us hl => match us, hl with | [_, _], _ => rfl)).pure
theorem ok_least_through (T : Txt K mg) : Glo P w K mg base "least_through" 42 2 [] (pureF C.g_least_through) :=
  (glo_mk (O := []) (Oc := []) (W := []) (U := []) T.d_least_through sc_least_through (fun f cdv A outer s H E P0 hr => (cs_cons (cs_asg ce_int (cg_name 2 sc_least_through.nd))
    (cs_one (cs_while (vs := [3]) (passes_of rfl) (ct_val ce_bl) (cs_cons (cs_for (U' := []) (vs := [3]) (passes_of rfl) rfl (ci_any (ce_call (ok_picked T) out2_body (hr.mono (by decide)) (ca_cons (ce_lrg1 rfl T.z_list T.z_range (ce_var 0)) (ca_cons (ce_var 2) ca_nil)) (alen_cons (alen_cons alen_nil)))) (cg_name 3 sc_least_through.nd) (cs_one (cs_if (ct_val (ce_callB (cd_all rfl) T.z_all bo_all (ca_cons (ce_comp rfl sc_least_through.nd (ci_any (ce_var 1)) (blkOk_by (own := [("one", 4)]) (by kernel_rfl)) (fun P0 s H C cl fp => (cg_name 4 sc_least_through.nd)) (fun s H C cl fp => cts_nil) (fun P0 s H C cl fp => (ce_callB (cd_any rfl) T.z_any bo_any (ca_cons (ce_comp rfl sc_least_through.nd (ci_any (ce_var 3)) (blkOk_by (own := [("switch", 5)]) (by kernel_rfl)) (fun P0 s H C cl fp => (cg_name 5 sc_least_through.nd)) (fun s H C cl fp => cts_nil) (fun P0 s H C cl fp => (ce_cmp (od_in hr.units65) (ce_var 5) (ce_var 4)))) ca_nil)))) ca_nil))) (cs_one (cs_ret (ce_var 2))) cs_nil)))
    (cs_one (cs_aug (i := 2) sc_least_through.nd ip_add ce_int))))))) (fun _ _ _ _ _ _ us hl => match us, hl with | [_, _], _ => rfl)).pure
theorem ok_ears_shown (T : Txt K mg) : Glo P w K mg base "ears_shown" 43 4 [] (pureF C.g_ears_shown) :=
  (glo_mk (O := []) (Oc := []) (W := []) (U := []) T.d_ears_shown sc_ears_shown (fun f cdv A outer s H E P0 hr => (cs_cons (cs_expr (ce_call (ok_need_no_clash T) out2_body (hr.mono (by decide)) (ca_cons (ce_var 0) (ca_cons (ce_var 1) ca_nil)) (alen_cons (alen_cons alen_nil))))
    (cs_cons (cs_if (ct_w (cw_or (ct_not (ct_val (ce_isi isk_list T.z_isinstance T.z_list (ce_var 3) bo_isinstance bo_list))) (cw_or1 (ct_not (ct_val (ce_callB (cd_all rfl) T.z_all bo_all (ca_cons (ce_comp rfl sc_ears_shown.nd (ci_any (ce_var 3)) (blkOk_by (own := [("pair", 4)]) (by kernel_rfl)) (fun P0 s H C cl fp => (cg_name 4 sc_ears_shown.nd)) (fun s H C cl fp => cts_nil) (fun P0 s H C cl fp => (ce_call (ok_is_pair T) Out2.blk (hr.mono (by decide)) (ca_cons (ce_var 1) (ca_cons (ce_var 2) (ca_cons (ce_var 4) ca_nil))) (alen_cons (alen_cons (alen_cons alen_nil)))))) ca_nil))))))) (cs_one (cs_ret ce_non)) cs_nil)
    (cs_one (cs_ret (ce_call (ok_least_through T) out2_body (hr.mono (by decide)) (ca_cons (ce_var 0) (ca_cons (ce_comp rfl sc_ears_shown.nd (ci_any (ce_var 3)) (blkOk_by (own := [("pair", 4)]) (by kernel_rfl)) (fun P0 s H C cl fp => (cg_name 4 sc_ears_shown.nd)) (fun s H C cl fp => cts_nil) (fun P0 s H C cl fp => (ce_call (ok_unlike_in T) Out2.blk (hr.mono (by decide)) (ca_cons (ce_var 1) (ca_cons (ce_var 4) ca_nil)) (alen_cons (alen_cons alen_nil))))) ca_nil)) (alen_cons (alen_cons alen_nil)))))))) (fun _ _ _ _ _ _ us hl => match us, hl with | [_, _, _, _], _ => rfl)).pure
theorem ok_is_least (T : Txt K mg) : Glo P w K mg base "is_least" 1 2 [] (pureF C.g_is_least) :=
  (glo_mk (O := []) (Oc := []) (W := []) (U := []) T.d_is_least sc_is_least (fun f cdv A outer s H E P0 hr => (cs_one (cs_ret (ce_not (ce_callB (cd_any rfl) T.z_any bo_any (ca_cons (ce_comp rfl sc_is_least.nd (ci_any (ce_var 0)) (blkOk_by (own := [("other", 2)]) (by kernel_rfl)) (fun P0 s H C cl fp => (cg_name 2 sc_is_least.nd)) (fun s H C cl fp => cts_nil) (fun P0 s H C cl fp => (ce_and (ce_cmp (od_ne hr.units) (ce_var 2) (ce_var 1)) (ce_one (ce_callB (cd_all rfl) T.z_all bo_all (ca_cons (ce_comp rfl sc_is_least.nd (ci_any (ce_var 2)) (blkOk_by (own := [("switch", 3)]) (by kernel_rfl)) (fun P0 s H C cl fp => (cg_name 3 sc_is_least.nd)) (fun s H C cl fp => cts_nil) (fun P0 s H C cl fp => (ce_cmp (od_in hr.units65) (ce_var 3) (ce_var 1)))) ca_nil)))))) ca_nil)))))) (fun _ _ _ _ _ _ us hl => match us, hl with | [_, _], _ => rfl)).pure
theorem ok_ear_paper (T : Txt K mg) : Glo P w K mg base "ear_paper" 8 3 [] (pureF C.g_ear_paper) :=
  (glo_mk (O := []) (Oc := []) (W := []) (U := []) T.d_ear_paper sc_ear_paper (fun f cdv A outer s H E P0 hr => (cs_cons (cs_expr (ce_call (ok_need_no_clash T) out2_body (hr.mono (by decide)) (ca_cons (ce_var 0) (ca_cons (ce_var 1) ca_nil)) (alen_cons (alen_cons alen_nil))))
    (cs_growD (i := 3) sc_ear_paper.nd (cs_for (U' := []) (vs := [4, 5]) (passes_of rfl) rfl (ci_range1 T.z_range (ca_cons (ce_callB cd_len T.z_len bo_len (ca_cons (ce_var 1) ca_nil)) ca_nil)) (cg_name 4 sc_ear_paper.nd) (cs_one (cs_for (U' := []) (vs := [5]) (passes_of rfl) rfl (ci_range2 T.z_range (ca_cons (ce_bin od_add (ce_var 4) ce_int) (ca_cons (ce_callB cd_len T.z_len bo_len (ca_cons (ce_var 1) ca_nil)) ca_nil))) (cg_name 5 sc_ear_paper.nd) (cs_one (cs_if (ct_val (ce_call (ok_is_pair T) out2_body (hr.mono (by decide)) (ca_cons (ce_var 1) (ca_cons (ce_var 2) (ca_cons (ce_tup (ca_cons (ce_var 4) (ca_cons (ce_var 5) ca_nil))) ca_nil))) (alen_cons (alen_cons (alen_cons alen_nil))))) (cs_one (cs_expr (ce_setd (i := 3) (Nat.lt_of_le_of_lt (Nat.add_le_add_left (by decide) _) hr.units65) (ce_call (ok_unlike_in T) out2_body (hr.mono (by decide)) (ca_cons (ce_var 1) (ca_cons (ce_tup (ca_cons (ce_var 4) (ca_cons (ce_var 5) ca_nil))) ca_nil)) (alen_cons (alen_cons alen_nil))) (ce_tup (ca_cons (ce_var 4) (ca_cons (ce_var 5) ca_nil)))))) cs_nil))))) (cs_one (cs_ret (ce_callB cd_sort T.z_sorted bo_sorted (ca_cons (ce_compI (i := 3) rfl sc_ear_paper.nd (blkOk_by (own := [("some", 6), ("pair", 7)]) (by kernel_rfl)) (fun P0 s H C cl fp => (cg_tup [6, 7] rfl (cgs_cons 6 sc_ear_paper.nd (cgs_cons 7 sc_ear_paper.nd cgs_nil)))) (fun s H C cl fp => (cts_one fun P0 => (ct_val (ce_call (ok_is_least T) Out2.blk (hr.mono (by decide)) (ca_cons (ce_callT (cd_listK rfl) T.z_list bo_list (ca_cons (ce_var 3) ca_nil)) (ca_cons (ce_var 6) ca_nil)) (alen_cons (alen_cons alen_nil)))))) (fun P0 s H C cl fp => (ce_var 7))) ca_nil))))))) (fun _ _ _ _ _ _ us hl => match us, hl with | [_, _, _], _ => rfl)).pure
theorem ok__law_cell (T : Txt K mg) : Glo P w K mg base "_law_cell" 1 2 [] (pureF C.g__law_cell) :=
  (glo_mk (O := []) (Oc := []) (W := []) (U := []) T.d__law_cell sc__law_cell (fun f cdv A outer s H E P0 hr => (cs_cons (cs_if (ct_cmp od_lt (ce_var 1) (ce_callB cd_len T.z_len bo_len (ca_cons (ce_var 0) ca_nil))) (cs_one (cs_ret (ce_ix (ce_var 0) (ce_var 1)))) cs_nil)
    (cs_one (cs_ret (ce_bin od_add (ce_bin od_mul ce_int (ce_var 1)) ce_int))))) (fun _ _ _ _ _ _ us hl => match us, hl with | [_, _], _ => rfl)).pure
theorem ok__law_box (T : Txt K mg) : Glo P w K mg base "_law_box" 2 2 [] (pureF C.g__law_box_2) :=
  (glo_mk (O := []) (Oc := []) (W := []) (U := []) T.d__law_box sc__law_box (fun f cdv A outer s H E P0 hr => (cs_cons (cs_asg (ce_call (ok__law_cell T) out2_body (hr.mono (by decide)) (ca_cons (ce_var 0) (ca_cons (ce_var 1) ca_nil)) (alen_cons (alen_cons alen_nil))) (cg_name 2 sc__law_box.nd))
    (cs_cons (cs_if (ct_cmp (od_eq hr.units) (ce_bin od_mod (ce_var 2) ce_int) ce_int) (cs_one (cs_ret (ce_lst (ca_cons (ce_bin od_fdiv (ce_var 2) ce_int) ca_nil)))) cs_nil)
    (cs_cons (cs_asg ce_int (cg_name 3 sc__law_box.nd))
    (cs_cons (cs_asg (ce_bin od_mod (ce_var 2) ce_int) (cg_name 4 sc__law_box.nd))
    (cs_cons (cs_for (U' := []) (vs := [5]) (passes_of rfl) rfl (ci_range1 T.z_range (ca_cons ce_int ca_nil)) (cg_name 5 sc__law_box.nd) (cs_cons (cs_asg (ce_bin od_mod (ce_bin od_add (ce_bin od_add (ce_bin od_add (ce_bin od_mul (ce_var 4) ce_int) (ce_bin od_mul (ce_bin od_mul ce_int (ce_var 5)) (ce_var 5))) (ce_bin od_mul ce_int (ce_var 1))) ce_int) ce_int) (cg_name 4 sc__law_box.nd))
    (cs_one (cs_asg (ce_bin od_add (ce_bin od_mul (ce_var 3) ce_int) (ce_var 4)) (cg_name 3 sc__law_box.nd)))))
    (cs_one (cs_ret (ce_lst (ca_cons (ce_var 3) ca_nil)))))))))) (fun _ _ _ _ _ _ us hl => match us, hl with | [_, _], _ => rfl)).pure
theorem ok__law_take (T : Txt K mg) : Glo P w K mg base "_law_take" 1 2 [0] C.g__law_take_2 :=
  (glo_mk (O := [0]) (Oc := [0]) (W := []) (U := [0]) T.d__law_take sc__law_take (fun f cdv A outer s H E P0 hr => (cs_cons (cs_asg (ce_bin od_mod (ce_ix (ce_own 0) ce_int) (ce_var 1)) (cg_name 2 sc__law_take.nd))
    (cs_cons (cs_setix (i := 0) (ce_bin od_fdiv (ce_ix (ce_own 0) ce_int) (ce_var 1)) ce_int)
    (cs_one (cs_ret (ce_var 2)))))) (fun _ _ _ _ _ _ us hl => match us, hl with | [_, _], _ => rfl))
theorem ok__law_readings (T : Txt K mg) : Glo P w K mg base "_law_readings" 1 1 [] (pureF C.g__law_readings) :=
  (glo_mk (O := []) (Oc := []) (W := []) (U := []) T.d__law_readings sc__law_readings (fun f cdv A outer s H E P0 hr => (cs_cons (cs_asg (ce_lst (ca_cons (ce_tup ca_nil) ca_nil)) (cg_name 1 sc__law_readings.nd))
    (cs_cons (cs_for (U' := []) (vs := [2]) (passes_of rfl) rfl (ci_range1 T.z_range (ca_cons (ce_var 0) ca_nil)) (cg_name 2 sc__law_readings.nd) (cs_one (cs_asg (ce_bin od_add (ce_comp rfl sc__law_readings.nd (ci_any (ce_var 1)) (blkOk_by (own := [("row", 3)]) (by kernel_rfl)) (fun P0 s H C cl fp => (cg_name 3 sc__law_readings.nd)) (fun s H C cl fp => cts_nil) (fun P0 s H C cl fp => (ce_bin od_add (ce_var 3) (ce_tup (ca_cons ce_int ca_nil))))) (ce_comp rfl sc__law_readings.nd (ci_any (ce_var 1)) (blkOk_by (own := [("row", 3)]) (by kernel_rfl)) (fun P0 s H C cl fp => (cg_name 3 sc__law_readings.nd)) (fun s H C cl fp => cts_nil) (fun P0 s H C cl fp => (ce_bin od_add (ce_var 3) (ce_tup (ca_cons ce_int ca_nil)))))) (cg_name 1 sc__law_readings.nd))))
    (cs_one (cs_ret (ce_callB cd_sort T.z_sorted bo_sorted (ca_cons (ce_var 1) ca_nil))))))) (fun _ _ _ _ _ _ us hl => match us, hl with | [_], _ => rfl)).pure
theorem ok__law_rule (T : Txt K mg) : Glo P w K mg base "_law_rule" 2 2 [0] C.g__law_rule_2 :=
  (glo_mk (O := [0]) (Oc := [0, 2, 3]) (W := [0, 2]) (U := [0]) T.d__law_rule sc__law_rule (fun f cdv A outer s H E P0 hr => (cs_cons (cs_own (i := 2) sc__law_rule.nd (ce_lrg1 rfl T.z_list T.z_range (ce_var 1)))
    (cs_cons (cs_own (i := 3) sc__law_rule.nd (ce_lst ca_nil))
    (cs_cons (cs_for (U' := [0]) (vs := []) (passes_of rfl) rfl (ci_range1 T.z_range (ca_cons (ce_callB (cd_min rfl) T.z_min bo_min (ca_cons (ce_callIO (ok__law_take T) [(0, 0)] out2_body (hr.mono (by decide)) (ca_cons (ce_own 0) (ca_cons ce_int ca_nil)) (alen_cons (alen_cons alen_nil))) (ca_cons (ce_var 1) ca_nil))) ca_nil)) (cg_name 4 sc__law_rule.nd) (cs_one (cs_append (i := 3) (ce_popAt (i := 2) (ce_callIO (ok__law_take T) [(0, 0)] out2_body (hr.mono (by decide)) (ca_cons (ce_own 0) (ca_cons (ce_callB cd_len T.z_len bo_len (ca_cons (ce_own 2) ca_nil)) ca_nil)) (alen_cons (alen_cons alen_nil)))))))
    (cs_cons (cs_asg (ce_call (ok__law_readings T) out2_body (hr.mono (by decide)) (ca_cons (ce_callB cd_len T.z_len bo_len (ca_cons (ce_own 3) ca_nil)) ca_nil) (alen_cons alen_nil)) (cg_name 5 sc__law_rule.nd))
    (cs_cons (cs_asg (ce_callIO (ok__law_take T) [(0, 0)] out2_body (hr.mono (by decide)) (ca_cons (ce_own 0) (ca_cons ce_int ca_nil)) (alen_cons (alen_cons alen_nil))) (cg_name 6 sc__law_rule.nd))
    (cs_cons (cs_if (ct_cmp (od_eq hr.units) (ce_var 6) ce_int) (cs_one (cs_ret (ce_tup (ca_cons (ce_callT cd_tuple T.z_tuple bo_tuple (ca_cons (ce_callB cd_sort T.z_sorted bo_sorted (ca_cons (ce_own 3) ca_nil)) ca_nil)) (ca_cons (ce_callT cd_tuple T.z_tuple bo_tuple (ca_cons (ce_comp rfl sc__law_rule.nd (ci_any (ce_var 5)) (blkOk_by (own := [("row", 11)]) (by kernel_rfl)) (fun P0 s H C cl fp => (cg_name 11 sc__law_rule.nd)) (fun s H C cl fp => cts_nil) (fun P0 s H C cl fp => (ce_callIO (ok__law_take T) [(0, 0)] Out2.blk (hr.mono (by decide)) (ca_cons (ce_own 0) (ca_cons ce_int ca_nil)) (alen_cons (alen_cons alen_nil))))) ca_nil)) ca_nil))))) cs_nil)
    (cs_cons (cs_asg (ce_comp rfl sc__law_rule.nd (ci_any (ce_own 3)) (blkOk_by (own := [("ear", 10)]) (by kernel_rfl)) (fun P0 s H C cl fp => (cg_name 10 sc__law_rule.nd)) (fun s H C cl fp => cts_nil) (fun P0 s H C cl fp => ce_int)) (cg_name 7 sc__law_rule.nd))
    (cs_cons (cs_if (ct_cmp (od_eq hr.units) (ce_var 6) ce_int) (cs_one (cs_asg (ce_comp rfl sc__law_rule.nd (ci_any (ce_own 3)) (blkOk_by (own := [("ear", 10)]) (by kernel_rfl)) (fun P0 s H C cl fp => (cg_name 10 sc__law_rule.nd)) (fun s H C cl fp => cts_nil) (fun P0 s H C cl fp => (ce_callIO (ok__law_take T) [(0, 0)] Out2.blk (hr.mono (by decide)) (ca_cons (ce_own 0) (ca_cons ce_int ca_nil)) (alen_cons (alen_cons alen_nil))))) (cg_name 7 sc__law_rule.nd))) cs_nil)
    (cs_cons (cs_asg (ce_callIO (ok__law_take T) [(0, 0)] out2_body (hr.mono (by decide)) (ca_cons (ce_own 0) (ca_cons (ce_bin od_add (ce_callB cd_len T.z_len bo_len (ca_cons (ce_own 3) ca_nil)) ce_int) ca_nil)) (alen_cons (alen_cons alen_nil))) (cg_name 8 sc__law_rule.nd))
    (cs_cons (cs_asgLc (i := 9) rfl sc__law_rule.nd rfl rfl (sw_true rfl rfl rfl (by decide +kernel)) (ci_any (ce_var 5)) (blkOk_by (own := [("row", 11)]) (by kernel_rfl)) (fun P0 s H C cl fp => (cg_name 11 sc__law_rule.nd)) (fun s H C cl fp => cts_nil) (fun P0 s H C cl fp => (ce_callT cd_int T.z_int bo_int (ca_cons (ce_cmp od_ge (ce_callB cd_len T.z_len bo_len (ca_cons (ce_comp rfl sc__law_rule.nd (ci_range1 T.z_range (ca_cons (ce_callB cd_len T.z_len bo_len (ca_cons (ce_own 3) ca_nil)) ca_nil)) (blkOk_by (own := [("k", 4)]) (by kernel_rfl)) (fun P0 s H C cl fp => (cg_name 4 sc__law_rule.nd)) (fun s H C cl fp => (cts_one fun P0 => (ct_cmp (od_eq hr.units) (ce_ix (ce_var 11) (ce_var 4)) (ce_ix (ce_var 7) (ce_var 4))))) (fun P0 s H C cl fp => (ce_var 4))) ca_nil)) (ce_var 8)) ca_nil))))
    (cs_one (cs_ret (ce_tup (ca_cons (ce_callT cd_tuple T.z_tuple bo_tuple (ca_cons (ce_callB cd_sort T.z_sorted bo_sorted (ca_cons (ce_own 3) ca_nil)) ca_nil)) (ca_cons (ce_callT cd_tuple T.z_tuple bo_tuple (ca_cons (ce_var 9) ca_nil)) ca_nil)))))))))))))))) (fun _ _ _ _ _ _ us hl => match us, hl with | [_, _], _ => rfl))
theorem ok__law_net (T : Txt K mg) : Glo P w K mg base "_law_net" 3 2 [0] C.g__law_net_2 :=
  (glo_mk (O := [0]) (Oc := [0]) (W := [0]) (U := [0]) T.d__law_net sc__law_net (fun f cdv A outer s H E P0 hr => (cs_cons (cs_asg (ce_bin od_add ce_int (ce_callIO (ok__law_take T) [(0, 0)] out2_body (hr.mono (by decide)) (ca_cons (ce_own 0) (ca_cons (ce_var 1) ca_nil)) (alen_cons (alen_cons alen_nil)))) (cg_name 2 sc__law_net.nd))
    (cs_one (cs_ret (ce_callT cd_tuple T.z_tuple bo_tuple (ca_cons (ce_comp rfl sc__law_net.nd (ci_range1 T.z_range (ca_cons (ce_var 2) ca_nil)) (blkOk_by (own := [("k", 3)]) (by kernel_rfl)) (fun P0 s H C cl fp => (cg_name 3 sc__law_net.nd)) (fun s H C cl fp => cts_nil) (fun P0 s H C cl fp => (ce_callIO (ok__law_rule T) [(0, 0)] Out2.blk (hr.mono (by decide)) (ca_cons (ce_own 0) (ca_cons (ce_var 2) ca_nil)) (alen_cons (alen_cons alen_nil))))) ca_nil)))))) (fun _ _ _ _ _ _ us hl => match us, hl with | [_, _], _ => rfl))
theorem ok__law_told (T : Txt K mg) : Glo P w K mg base "_law_told" 1 3 [] (pureF C.g__law_told) :=
  (glo_mk (O := []) (Oc := []) (W := []) (U := []) T.d__law_told sc__law_told (fun f cdv A outer s H E P0 hr => (cs_cons (cs_asg (ce_ix (ce_var 0) (ce_var 2)) (cg_tup [3, 4] rfl (cgs_cons 3 sc__law_told.nd (cgs_cons 4 sc__law_told.nd cgs_nil))))
    (cs_cons (cs_asg ce_int (cg_name 5 sc__law_told.nd))
    (cs_cons (cs_for (U' := []) (vs := [6]) (passes_of rfl) rfl (ci_any (ce_var 3)) (cg_name 6 sc__law_told.nd) (cs_one (cs_asg (ce_bin od_add (ce_bin od_mul ce_int (ce_var 5)) (ce_ix (ce_var 1) (ce_var 6))) (cg_name 5 sc__law_told.nd))))
    (cs_one (cs_ret (ce_ix (ce_var 4) (ce_var 5)))))))) (fun _ _ _ _ _ _ us hl => match us, hl with | [_, _, _], _ => rfl)).pure
theorem ok__law_bits (T : Txt K mg) : Glo P w K mg base "_law_bits" 1 2 [] (pureF C.g__law_bits_2) :=
  (glo_mk (O := []) (Oc := []) (W := []) (U := []) T.d__law_bits sc__law_bits (fun f cdv A outer s H E P0 hr => (cs_cons (cs_if (ct_w (cw_or (ct_not (ct_val (ce_isi isk_tuple T.z_isinstance T.z_tuple (ce_var 0) bo_isinstance bo_tuple))) (cw_or1 (ct_cmp (od_ne hr.units) (ce_callB cd_len T.z_len bo_len (ca_cons (ce_var 0) ca_nil)) (ce_var 1))))) (cs_one (cs_ret ce_bl)) cs_nil)
    (cs_one (cs_ret (ce_callB (cd_all rfl) T.z_all bo_all (ca_cons (ce_comp rfl sc__law_bits.nd (ci_any (ce_var 0)) (blkOk_by (own := [("one", 2)]) (by kernel_rfl)) (fun P0 s H C cl fp => (cg_name 2 sc__law_bits.nd)) (fun s H C cl fp => cts_nil) (fun P0 s H C cl fp => (ce_and (ce_isi isk_int T.z_isinstance T.z_int (ce_var 2) bo_isinstance bo_int) (ce_and (ce_not (ce_isi isk_bool T.z_isinstance T.z_bool (ce_var 2) bo_isinstance bo_bool)) (ce_one (ce_cmp (od_in hr.units65) (ce_var 2) (ce_tup (ca_cons ce_int (ca_cons ce_int ca_nil))))))))) ca_nil)))))) (fun _ _ _ _ _ _ us hl => match us, hl with | [_, _], _ => rfl)).pure
theorem ok__law_whole (T : Txt K mg) : Glo P w K mg base "_law_whole" 1 1 [] (pureF C.g__law_whole_2) :=
  (glo_mk (O := []) (Oc := []) (W := []) (U := []) T.d__law_whole sc__law_whole (fun f cdv A outer s H E P0 hr => (cs_one (cs_ret (ce_and (ce_isi isk_int T.z_isinstance T.z_int (ce_var 0) bo_isinstance bo_int) (ce_one (ce_not (ce_isi isk_bool T.z_isinstance T.z_bool (ce_var 0) bo_isinstance bo_bool))))))) (fun _ _ _ _ _ _ us hl => match us, hl with | [_], _ => rfl)).pure
theorem ok__law_sights (T : Txt K mg) : Glo P w K mg base "_law_sights" 2 3 [0] C.g__law_sights :=
  (glo_mk (O := [0]) (Oc := [0, 3]) (W := [0]) (U := [0]) T.d__law_sights sc__law_sights (fun f cdv A outer s H E P0 hr => (cs_cons (cs_own (i := 3) sc__law_sights.nd (ce_lst ca_nil))
    (cs_cons (cs_for (U' := [0]) (vs := [4, 5, 6, 7]) (passes_of rfl) rfl (ci_range1 T.z_range (ca_cons (ce_callIO (ok__law_take T) [(0, 0)] out2_body (hr.mono (by decide)) (ca_cons (ce_own 0) (ca_cons (ce_bin od_add (ce_var 2) ce_int) ca_nil)) (alen_cons (alen_cons alen_nil))) ca_nil)) (cg_name 4 sc__law_sights.nd) (cs_cons (cs_asg (ce_callT cd_tuple T.z_tuple bo_tuple (ca_cons (ce_comp rfl sc__law_sights.nd (ci_any (ce_var 1)) (blkOk_by (own := [("one", 8)]) (by kernel_rfl)) (fun P0 s H C cl fp => (cg_name 8 sc__law_sights.nd)) (fun s H C cl fp => cts_nil) (fun P0 s H C cl fp => (ce_callIO (ok__law_take T) [(0, 0)] Out2.blk (hr.mono (by decide)) (ca_cons (ce_own 0) (ca_cons ce_int ca_nil)) (alen_cons (alen_cons alen_nil))))) ca_nil)) (cg_name 5 sc__law_sights.nd))
    (cs_cons (cs_if (ct_w (cw_and (ct_cmp (od_ne hr.units) (ce_own 3) (ce_lst ca_nil)) (cw_and1 (ct_cmp (od_eq hr.units) (ce_callIO (ok__law_take T) [(0, 0)] out2_body (hr.mono (by decide)) (ca_cons (ce_own 0) (ca_cons ce_int ca_nil)) (alen_cons (alen_cons alen_nil))) ce_int)))) (cs_cons (cs_asg (ce_ix (ce_ix (ce_own 3) (ce_callIO (ok__law_take T) [(0, 0)] out2_body (hr.mono (by decide)) (ca_cons (ce_own 0) (ca_cons (ce_callB cd_len T.z_len bo_len (ca_cons (ce_own 3) ca_nil)) ca_nil)) (alen_cons (alen_cons alen_nil)))) ce_int) (cg_name 5 sc__law_sights.nd))
    (cs_cons (cs_asg (ce_callIO (ok__law_take T) [(0, 0)] out2_body (hr.mono (by decide)) (ca_cons (ce_own 0) (ca_cons (ce_callB cd_len T.z_len bo_len (ca_cons (ce_var 1) ca_nil)) ca_nil)) (alen_cons (alen_cons alen_nil))) (cg_name 6 sc__law_sights.nd))
    (cs_one (cs_asg (ce_bin od_add (ce_bin od_add (ce_slice (ce_var 5) co_none (co_some (ce_var 6))) (ce_tup (ca_cons (ce_bin od_sub ce_int (ce_ix (ce_var 5) (ce_var 6))) ca_nil))) (ce_slice (ce_var 5) (co_some (ce_bin od_add (ce_var 6) ce_int)) co_none)) (cg_name 5 sc__law_sights.nd))))) cs_nil)
    (cs_cons (cs_asg (ce_bin od_mod (ce_callIO (ok__law_take T) [(0, 0)] out2_body (hr.mono (by decide)) (ca_cons (ce_own 0) (ca_cons (ce_callB cd_len T.z_len bo_len (ca_cons (ce_var 1) ca_nil)) ca_nil)) (alen_cons (alen_cons alen_nil))) (ce_bin od_add ce_int (ce_callIO (ok__law_take T) [(0, 0)] out2_body (hr.mono (by decide)) (ca_cons (ce_own 0) (ca_cons (ce_callB cd_len T.z_len bo_len (ca_cons (ce_var 1) ca_nil)) ca_nil)) (alen_cons (alen_cons alen_nil))))) (cg_name 7 sc__law_sights.nd))
    (cs_one (cs_append (i := 3) (ce_tup (ca_cons (ce_var 5) (ca_cons (ce_var 7) (ca_cons (ce_call (ok__law_told T) out2_body (hr.mono (by decide)) (ca_cons (ce_var 1) (ca_cons (ce_var 5) (ca_cons (ce_var 7) ca_nil))) (alen_cons (alen_cons (alen_cons alen_nil)))) ca_nil))))))))))
    (cs_one (cs_ret (ce_own 3)))))) (fun _ _ _ _ _ _ us hl => match us, hl with | [_, _, _], _ => rfl))
theorem ok__law_is_seen (T : Txt K mg) : Glo P w K mg base "_law_is_seen" 2 2 [] (pureF C.g__law_is_seen) :=
  (glo_mk (O := []) (Oc := []) (W := []) (U := []) T.d__law_is_seen sc__law_is_seen (fun f cdv A outer s H E P0 hr => (cs_cons (cs_if (ct_w (cw_or (ct_not (ct_val (ce_isi isk_list T.z_isinstance T.z_list (ce_var 1) bo_isinstance bo_list))) (cw_or1 (ct_cmp od_gt (ce_callB cd_len T.z_len bo_len (ca_cons (ce_var 1) ca_nil)) ce_int)))) (cs_one (cs_ret ce_bl)) cs_nil)
    (cs_cons (cs_for (U' := []) (vs := [2]) (passes_of rfl) rfl (ci_any (ce_var 1)) (cg_name 2 sc__law_is_seen.nd) (cs_cons (cs_if (ct_w (cw_or (ct_not (ct_val (ce_isi isk_tuple T.z_isinstance T.z_tuple (ce_var 2) bo_isinstance bo_tuple))) (cw_or (ct_cmp (od_ne hr.units) (ce_callB cd_len T.z_len bo_len (ca_cons (ce_var 2) ca_nil)) ce_int) (cw_or (ct_not (ct_val (ce_call (ok__law_bits T) out2_body (hr.mono (by decide)) (ca_cons (ce_ix (ce_var 2) ce_int) (ca_cons (ce_var 0) ca_nil)) (alen_cons (alen_cons alen_nil))))) (cw_or1 (ct_not (ct_val (ce_call (ok__law_bits T) out2_body (hr.mono (by decide)) (ca_cons (ce_slice (ce_var 2) (co_some ce_int) co_none) (ca_cons ce_int ca_nil)) (alen_cons (alen_cons alen_nil)))))))))) (cs_one (cs_ret ce_bl)) cs_nil)
    (cs_one (cs_if (ct_w (cw_or (ct_not (ct_val (ce_call (ok__law_whole T) out2_body (hr.mono (by decide)) (ca_cons (ce_ix (ce_var 2) ce_int) ca_nil) (alen_cons alen_nil)))) (cw_or1 (ct_not (ct_chain od_le od_lt ce_int (ce_ix (ce_var 2) ce_int) (ce_var 0)))))) (cs_one (cs_ret ce_bl)) cs_nil))))
    (cs_one (cs_ret ce_bl))))) (fun _ _ _ _ _ _ us hl => match us, hl with | [_, _], _ => rfl)).pure
theorem ok__law_spoilt (T : Txt K mg) : Glo P w K mg base "_law_spoilt" 2 3 [0] C.g__law_spoilt :=
  (glo_mk (O := [0]) (Oc := [0]) (W := [0]) (U := [0]) T.d__law_spoilt sc__law_spoilt (fun f cdv A outer s H E P0 hr => (cs_cons (cs_if (ct_cmp (od_eq hr.units) (ce_var 1) (ce_lst ca_nil)) (cs_one (cs_ret (ce_lst (ca_cons (ce_tup (ca_cons (ce_bin od_mul (ce_tup (ca_cons ce_int ca_nil)) (ce_var 2)) (ca_cons (ce_var 2) (ca_cons ce_int ca_nil)))) ca_nil)))) cs_nil)
    (cs_cons (cs_asg (ce_callIO (ok__law_take T) [(0, 0)] out2_body (hr.mono (by decide)) (ca_cons (ce_own 0) (ca_cons (ce_callB cd_len T.z_len bo_len (ca_cons (ce_var 1) ca_nil)) ca_nil)) (alen_cons (alen_cons alen_nil))) (cg_name 3 sc__law_spoilt.nd))
    (cs_cons (cs_asg (ce_ix (ce_var 1) (ce_var 3)) (cg_tup [4, 5, 6] rfl (cgs_cons 4 sc__law_spoilt.nd (cgs_cons 5 sc__law_spoilt.nd (cgs_cons 6 sc__law_spoilt.nd cgs_nil)))))
    (cs_cons (cs_asg (ce_lst (ca_cons (ce_tup (ca_cons (ce_var 4) (ca_cons (ce_var 5) (ca_cons (ce_bin od_sub ce_int (ce_var 6)) ca_nil)))) (ca_cons (ce_tup (ca_cons (ce_var 4) (ca_cons (ce_var 5) (ca_cons ce_int ca_nil)))) (ca_cons (ce_tup (ca_cons (ce_var 4) (ca_cons (ce_var 2) (ca_cons (ce_var 6) ca_nil)))) (ca_cons (ce_tup (ca_cons (ce_slice (ce_var 4) (co_some ce_int) co_none) (ca_cons (ce_var 5) (ca_cons (ce_var 6) ca_nil)))) (ca_cons (ce_tup (ca_cons (ce_callT cd_list T.z_list bo_list (ca_cons (ce_var 4) ca_nil)) (ca_cons (ce_var 5) (ca_cons (ce_var 6) ca_nil)))) ca_nil)))))) (cg_name 7 sc__law_spoilt.nd))
    (cs_cons (cs_asg (ce_bin od_add (ce_var 7) (ce_lst (ca_cons (ce_lst (ca_cons (ce_var 4) (ca_cons (ce_var 5) (ca_cons (ce_var 6) ca_nil)))) (ca_cons (ce_tup (ca_cons (ce_var 4) (ca_cons (ce_callT cd_bool T.z_bool bo_bool (ca_cons (ce_var 5) ca_nil)) (ca_cons (ce_var 6) ca_nil)))) (ca_cons (ce_tup (ca_cons (ce_var 4) (ca_cons (ce_var 5) (ca_cons (ce_callT cd_bool T.z_bool bo_bool (ca_cons (ce_var 6) ca_nil)) ca_nil)))) (ca_cons (ce_tup (ca_cons (ce_var 4) (ca_cons (ce_var 5) ca_nil))) (ca_cons (ce_tup (ca_cons (ce_var 4) (ca_cons (ce_neg ce_int) (ca_cons (ce_var 6) ca_nil)))) ca_nil))))))) (cg_name 7 sc__law_spoilt.nd))
    (cs_one (cs_ret (ce_bin od_add (ce_bin od_add (ce_slice (ce_var 1) co_none (co_some (ce_var 3))) (ce_lst (ca_cons (ce_ix (ce_var 7) (ce_callIO (ok__law_take T) [(0, 0)] out2_body (hr.mono (by decide)) (ca_cons (ce_own 0) (ca_cons ce_int ca_nil)) (alen_cons (alen_cons alen_nil)))) ca_nil))) (ce_slice (ce_var 1) (co_some (ce_bin od_add (ce_var 3) ce_int)) co_none)))))))))) (fun _ _ _ _ _ _ us hl => match us, hl with | [_, _, _], _ => rfl))
theorem okz__law_kind (T : Txt K mg) : GloZ P w K mg base "_law_kind" 1 "e" ["NoSeen", "TooMany"] kindW :=
  gloZ_mk (m := kindM) T.d__law_kind sc__law_kind (fun cn C f cdv A outer s H E p hc hC hz hf hot hr => (cz_cons (cz_asg (zz_lst (zs_cons (cz_isi (T.zz_zkind cn hc) T.is_zkind_NoRule hc hC hz hf List.mem_cons_self T.z_isinstance) (zs_cons (cz_isi (T.zz_zkind cn hc) T.is_zkind_TooMany hc hC hz hf List.mem_cons_self T.z_isinstance) (zs_cons (cz_isi (T.zz_zkind cn hc) T.is_zkind_NoOrder hc hC hz hf List.mem_cons_self T.z_isinstance) (zs_cons (cz_isi (T.zz_zkind cn hc) T.is_zkind_NoStand hc hC hz hf List.mem_cons_self T.z_isinstance) zs_nil))))) (cg_name 1 sc__law_kind.nd))
    (cz_cons (cz_asg (zz_bin od_add (ce_var 1) (zz_lst (zs_cons (cz_isi (T.zz_zkind cn hc) T.is_zkind_NoSeen hc hC hz hf List.mem_cons_self T.z_isinstance) (zs_cons (cz_isi (T.zz_zkind cn hc) T.is_zkind_NoSwitch hc hC hz hf List.mem_cons_self T.z_isinstance) (zs_cons (cz_isi (T.zz_zkind cn hc) T.is_zkind_NoText hc hC hz hf List.mem_cons_self T.z_isinstance) (zs_cons (cz_isi (T.zz_zkind cn hc) T.is_zkind_NoRow hc hC hz hf List.mem_cons_self T.z_isinstance) zs_nil)))))) (cg_name 1 sc__law_kind.nd))
    (cz_cons (cz_asg (zz_bin od_add (ce_var 1) (zz_lst (zs_cons (cz_isi (T.zz_zkind cn hc) T.is_zkind_NoFrame hc hC hz hf List.mem_cons_self T.z_isinstance) (zs_cons (cz_isi (T.zz_zkind cn hc) T.is_zkind_NoDen hc hC hz hf List.mem_cons_self T.z_isinstance) (zs_cons (cz_isi (T.zz_zkind cn hc) T.is_zkind_NoHolds hc hC hz hf List.mem_cons_self T.z_isinstance) (zs_cons (cz_isi (T.zz_zkind cn hc) T.is_zkind_Hears hc hC hz hf List.mem_cons_self T.z_isinstance) zs_nil)))))) (cg_name 1 sc__law_kind.nd))
    (cz_cons (zs_if (zt_or (zt_not (zt_isi (cz_isv (T.zz_zkind cn hc) T.v_zkind hc hC hz hf List.mem_cons_self T.z_isinstance))) (ct_cmp (od_ne hr.units) (ce_callB (cd_sumH hot) T.z_sum bo_sum (ca_cons (ce_intsH hot sc__law_kind.nd (blkOk_by (own := [("kind", 3)]) (by kernel_rfl)) (fun s H C cl fp => pg_name sc__law_kind.nd rfl (Or.inl rfl)) (fun s H C cl fp => pe_callTy call_int1 rfl T.z_int bo_int (pa_cons (pe_var rfl (Or.inl rfl)) pa_nil))) ca_nil)) ce_int)) (cs_one (cs_ret ce_str)))
    (cz_cons (cz_of (cs_asgU (ce_lst (ca_cons ce_str (ca_cons ce_str (ca_cons ce_str (ca_cons ce_str (ca_cons ce_str (ca_cons ce_str (ca_cons ce_str (ca_cons ce_str (ca_cons ce_str (ca_cons ce_str (ca_cons ce_str (ca_cons ce_str ca_nil))))))))))))) (cg_name 2 sc__law_kind.nd)))
    (cz_one (cz_of (cs_ret (ce_ix (ce_var 2) (ce_index hr.units65 (ce_var 1) ce_bl))))))))))) (fun cn hc => kind_all cn (mem_sub hc)) (fun _ _ _ _ _ _ us hl => match us, hl with | [_], _ => rfl)
theorem ok__law_asked (T : Txt K mg) : Glo P w K mg base "_law_asked" 45 4 [] (pureF C.g__law_asked_12) :=
  (glo_mk (O := []) (Oc := []) (W := []) (U := []) T.d__law_asked sc__law_asked (fun f cdv A outer s H E P0 hr => (cs_one (cs_try (i := 4) (cl := ["NoSeen", "TooMany"]) (tm := C.w__law_asked_12_1) (h := C.h__law_asked_12_1) sc__law_asked.nd T.cat__law_asked_1 rfl (fun Ws pn xe tk => (cb_cons (cb_if (ct_cmp (od_eq hr.units) (ce_var 0) ce_int) (cb_one (cb_ret (cx_call (ok_first_clash T) tk (hr.mono (by decide)) (ca_cons (ce_var 1) (ca_cons (ce_var 2) ca_nil)) (alen_cons (alen_cons alen_nil))))) cb_nil) (cb_cons (cb_if (ct_cmp (od_eq hr.units) (ce_var 0) ce_int) (cb_one (cb_ret (cx_call (ok_fewest_ears T) tk (hr.mono (by decide)) (ca_cons (ce_var 1) (ca_cons (ce_var 2) (ca_cons (ce_var 3) ca_nil))) (alen_cons (alen_cons (alen_cons alen_nil)))))) cb_nil) (cb_cons (cb_if (ct_cmp (od_eq hr.units) (ce_var 0) ce_int) (cb_one (cb_ret (cx_call (ok_rule_seen T) tk (hr.mono (by decide)) (ca_cons (ce_var 1) (ca_cons (ce_var 2) (ca_cons (ce_var 3) ca_nil))) (alen_cons (alen_cons (alen_cons alen_nil)))))) cb_nil) (cb_cons (cb_if (ct_cmp (od_eq hr.units) (ce_var 0) ce_int) (cb_one (cb_ret (cx_call (ok_net_seen T) tk (hr.mono (by decide)) (ca_cons (ce_var 1) (ca_cons (ce_var 2) ca_nil)) (alen_cons (alen_cons alen_nil))))) cb_nil) (cb_cons (cb_if (ct_cmp (od_eq hr.units) (ce_var 0) ce_int) (cb_one (cb_ret (cx_call (ok_ear_paper T) tk (hr.mono (by decide)) (ca_cons (ce_var 1) (ca_cons (ce_var 2) (ca_cons (ce_var 3) ca_nil))) (alen_cons (alen_cons (alen_cons alen_nil)))))) cb_nil) (cb_one (cb_ret (cx_call (ok_ears_shown T) tk (hr.mono (by decide)) (ca_cons (ce_var 1) (ca_cons (ce_var 2) (ca_cons (ce_var 3) (ca_cons (ce_lst ca_nil) ca_nil)))) (alen_cons (alen_cons (alen_cons (alen_cons alen_nil))))))))))))) (fun a oe C cn pn hC hc hz hf => (cz_one (cz_ret (cz_tell (okz__law_kind T) (roomH_suite hr) (mem_sub hc) hC hz hf rfl List.mem_cons_self))))))) (fun _ _ _ _ _ _ us hl => match us, hl with | [_, _, _, _], _ => rfl)).pure
theorem ok__law_first (T : Txt K mg) : Glo P w K mg base "_law_first" 1 1 [] (pureF C.g__law_first) :=
  (glo_mk (O := []) (Oc := []) (W := []) (U := []) T.d__law_first sc__law_first (fun f cdv A outer s H E P0 hr => (cs_cons (cs_for (U' := []) (vs := [1, 2]) (passes_of rfl) rfl (ci_range1 T.z_range (ca_cons (ce_callB cd_len T.z_len bo_len (ca_cons (ce_var 0) ca_nil)) ca_nil)) (cg_name 1 sc__law_first.nd) (cs_one (cs_for (U' := []) (vs := [2]) (passes_of rfl) rfl (ci_range2 T.z_range (ca_cons (ce_bin od_add (ce_var 1) ce_int) (ca_cons (ce_callB cd_len T.z_len bo_len (ca_cons (ce_var 0) ca_nil)) ca_nil))) (cg_name 2 sc__law_first.nd) (cs_one (cs_if (ct_w (cw_and (ct_cmp (od_eq hr.units) (ce_ix (ce_ix (ce_var 0) (ce_var 1)) ce_int) (ce_ix (ce_ix (ce_var 0) (ce_var 2)) ce_int)) (cw_and (ct_cmp (od_eq hr.units) (ce_ix (ce_ix (ce_var 0) (ce_var 1)) ce_int) (ce_ix (ce_ix (ce_var 0) (ce_var 2)) ce_int)) (cw_and1 (ct_cmp (od_ne hr.units) (ce_ix (ce_ix (ce_var 0) (ce_var 1)) ce_int) (ce_ix (ce_ix (ce_var 0) (ce_var 2)) ce_int)))))) (cs_one (cs_ret (ce_tup (ca_cons (ce_var 1) (ca_cons (ce_var 2) ca_nil))))) cs_nil)))))
    (cs_one (cs_ret ce_non)))) (fun _ _ _ _ _ _ us hl => match us, hl with | [_], _ => rfl)).pure
theorem ok__law_doubled (T : Txt K mg) : Glo P w K mg base "_law_doubled" 2 2 [0] C.g__law_doubled :=
  (glo_mk (O := [0]) (Oc := [0, 2]) (W := [0]) (U := [0]) T.d__law_doubled sc__law_doubled (fun f cdv A outer s H E P0 hr => (cs_cons (cs_own (i := 2) sc__law_doubled.nd (ce_callT cd_list T.z_list bo_list (ca_cons (ce_var 1) ca_nil)))
    (cs_cons (cs_for (U' := [0]) (vs := [3, 4, 5, 6]) (passes_of rfl) rfl (ci_range1 T.z_range (ca_cons (ce_bin od_mul (ce_callIO (ok__law_take T) [(0, 0)] out2_body (hr.mono (by decide)) (ca_cons (ce_own 0) (ca_cons ce_int ca_nil)) (alen_cons (alen_cons alen_nil))) (ce_callT cd_int T.z_int bo_int (ca_cons (ce_cmp (od_ne hr.units) (ce_var 1) (ce_lst ca_nil)) ca_nil))) ca_nil)) (cg_name 3 sc__law_doubled.nd) (cs_cons (cs_asg (ce_ix (ce_var 1) (ce_callIO (ok__law_take T) [(0, 0)] out2_body (hr.mono (by decide)) (ca_cons (ce_own 0) (ca_cons (ce_callB cd_len T.z_len bo_len (ca_cons (ce_var 1) ca_nil)) ca_nil)) (alen_cons (alen_cons alen_nil)))) (cg_tup [4, 5, 6] rfl (cgs_cons 4 sc__law_doubled.nd (cgs_cons 5 sc__law_doubled.nd (cgs_cons 6 sc__law_doubled.nd cgs_nil)))))
    (cs_one (cs_insert (i := 2) (ce_callIO (ok__law_take T) [(0, 0)] out2_body (hr.mono (by decide)) (ca_cons (ce_own 0) (ca_cons (ce_bin od_add (ce_callB cd_len T.z_len bo_len (ca_cons (ce_own 2) ca_nil)) ce_int) ca_nil)) (alen_cons (alen_cons alen_nil))) (ce_tup (ca_cons (ce_var 4) (ca_cons (ce_var 5) (ca_cons (ce_ix (ce_lst (ca_cons (ce_var 6) (ca_cons (ce_var 6) (ca_cons (ce_bin od_sub ce_int (ce_var 6)) ca_nil)))) (ce_callIO (ok__law_take T) [(0, 0)] out2_body (hr.mono (by decide)) (ca_cons (ce_own 0) (ca_cons ce_int ca_nil)) (alen_cons (alen_cons alen_nil)))) ca_nil))))))))
    (cs_one (cs_ret (ce_own 2)))))) (fun _ _ _ _ _ _ us hl => match us, hl with | [_, _], _ => rfl))
theorem ok_law (T : Txt K mg) {f : Addr} {fd : FuncData} (F : Fun K "law" "law" s_law f fd) : FnOk P w K mg base (L2N.CX P w) 46 f fd ["script"] (spD K mg 1 [] (pureF C.g_law_k82_2)) :=
  law_fn (Oc := [2]) (W := [2]) F sc_law (fun f cdv A outer s H E P0 hr => (cs_cons (cs_for (U' := []) (vs := [1, 2, 3, 4, 5, 6, 7, 8]) (passes_of rfl) rfl (ci_range1 T.z_range (ca_cons (ce_callB (cd_max rfl) T.z_max bo_max (ca_cons ce_int (ca_cons (ce_callB (cd_min rfl) T.z_min bo_min (ca_cons (ce_callB cd_len T.z_len bo_len (ca_cons (ce_var 0) ca_nil)) (ca_cons ce_int ca_nil))) ca_nil))) ca_nil)) (cg_name 1 sc_law.nd) (cs_cons (cs_own (i := 2) sc_law.nd (ce_call (ok__law_box T) out2_body (hr.mono (by decide)) (ca_cons (ce_var 0) (ca_cons (ce_var 1) ca_nil)) (alen_cons (alen_cons alen_nil))))
    (cs_cons (cs_asg (ce_callIO (ok__law_net T) [(0, 2)] out2_body (hr.mono (by decide)) (ca_cons (ce_own 2) (ca_cons ce_int ca_nil)) (alen_cons (alen_cons alen_nil))) (cg_name 3 sc_law.nd))
    (cs_cons (cs_asg (ce_callIO (ok__law_doubled T) [(0, 2)] out2_body (hr.mono (by decide)) (ca_cons (ce_own 2) (ca_cons (ce_callIO (ok__law_sights T) [(0, 2)] out2_body (hr.mono (by decide)) (ca_cons (ce_own 2) (ca_cons (ce_var 3) (ca_cons ce_int ca_nil))) (alen_cons (alen_cons (alen_cons alen_nil)))) ca_nil)) (alen_cons (alen_cons alen_nil))) (cg_name 4 sc_law.nd))
    (cs_cons (cs_if (ct_cmp (od_eq hr.units) (ce_callIO (ok__law_take T) [(0, 2)] out2_body (hr.mono (by decide)) (ca_cons (ce_own 2) (ca_cons ce_int ca_nil)) (alen_cons (alen_cons alen_nil))) ce_int) (cs_one (cs_asg (ce_callIO (ok__law_spoilt T) [(0, 2)] out2_body (hr.mono (by decide)) (ca_cons (ce_own 2) (ca_cons (ce_var 4) (ca_cons (ce_callB cd_len T.z_len bo_len (ca_cons (ce_var 3) ca_nil)) ca_nil))) (alen_cons (alen_cons (alen_cons alen_nil)))) (cg_name 4 sc_law.nd))) cs_nil)
    (cs_cons (cs_asg (ce_callIO (ok__law_take T) [(0, 2)] out2_body (hr.mono (by decide)) (ca_cons (ce_own 2) (ca_cons (ce_callB cd_len T.z_len bo_len (ca_cons (ce_var 3) ca_nil)) ca_nil)) (alen_cons (alen_cons alen_nil))) (cg_name 5 sc_law.nd))
    (cs_cons (cs_asg (ce_call (ok__law_asked T) out2_body (hr.mono (by decide)) (ca_cons ce_int (ca_cons (ce_callB cd_len T.z_len bo_len (ca_cons (ce_var 3) ca_nil)) (ca_cons (ce_var 4) (ca_cons (ce_var 5) ca_nil)))) (alen_cons (alen_cons (alen_cons (alen_cons alen_nil))))) (cg_name 6 sc_law.nd))
    (cs_cons (cs_asgLc (i := 7) rfl sc_law.nd rfl rfl (sw_true rfl rfl rfl (by decide +kernel)) (ci_range2 T.z_range (ca_cons ce_int (ca_cons ce_int ca_nil))) (blkOk_by (own := [("way", 9)]) (by kernel_rfl)) (fun P0 s H C cl fp => (cg_name 9 sc_law.nd)) (fun s H C cl fp => cts_nil) (fun P0 s H C cl fp => (ce_cmp (od_eq hr.units) (ce_call (ok__law_asked T) Out2.blk (hr.mono (by decide)) (ca_cons (ce_var 9) (ca_cons (ce_callB cd_len T.z_len bo_len (ca_cons (ce_var 3) ca_nil)) (ca_cons (ce_var 4) (ca_cons (ce_var 5) ca_nil)))) (alen_cons (alen_cons (alen_cons (alen_cons alen_nil))))) ce_str)))
    (cs_one (cs_if (ct_not (ct_val (ce_call (ok__law_is_seen T) out2_body (hr.mono (by decide)) (ca_cons (ce_callB cd_len T.z_len bo_len (ca_cons (ce_var 3) ca_nil)) (ca_cons (ce_var 4) ca_nil)) (alen_cons (alen_cons alen_nil))))) (cs_one (cs_if (ct_w (cw_or (ct_cmp (od_ne hr.units) (ce_var 6) ce_str) (cw_or1 (ct_cmp (od_ne hr.units) (ce_var 7) (ce_bin od_mul (ce_lst (ca_cons ce_bl ca_nil)) ce_int))))) (cs_one (cs_ret ce_bl)) cs_nil)) (cs_cons (cs_asg (ce_call (ok__law_first T) out2_body (hr.mono (by decide)) (ca_cons (ce_var 4) ca_nil) (alen_cons alen_nil)) (cg_name 8 sc_law.nd))
    (cs_cons (cs_if (ct_w (cw_or (ct_cmp (od_ne hr.units) (ce_var 6) (ce_var 8)) (cw_or1 (ct_w (cw_and (ct_cmp od_isnot (ce_var 8) ce_non) (cw_and1 (ct_cmp (od_ne hr.units) (ce_var 7) (ce_bin od_mul (ce_lst (ca_cons ce_bl ca_nil)) ce_int)))))))) (cs_one (cs_ret ce_bl)) cs_nil)
    (cs_cons (cs_if (ct_w (cw_and (ct_cmp od_isnot (ce_var 8) ce_non) (cw_and1 (ct_not (ct_val (ce_callB (cd_all rfl) T.z_all bo_all (ca_cons (ce_comp rfl sc_law.nd (ci_any (ce_var 6)) (blkOk_by (own := [("place", 10)]) (by kernel_rfl)) (fun P0 s H C cl fp => (cg_name 10 sc_law.nd)) (fun s H C cl fp => cts_nil) (fun P0 s H C cl fp => (ce_call (ok__law_whole T) Out2.blk (hr.mono (by decide)) (ca_cons (ce_var 10) ca_nil) (alen_cons alen_nil)))) ca_nil))))))) (cs_one (cs_ret ce_bl)) cs_nil)
    (cs_one (cs_if (ct_w (cw_and (ct_cmp od_is (ce_var 8) ce_non) (cw_and1 (ct_cmp (od_in hr.units65) ce_bl (ce_var 7))))) (cs_one (cs_ret ce_bl)) cs_nil)))))))))))))))
    (cs_one (cs_ret ce_bl))))
end
end K82

namespace K82
theorem good_law : Y.Good C.g_law_k82_2 63 := H.good_k82
end K82

namespace K82
open PySem PySem.Spec PyProof.Rows L2 Y
theorem all {l : PySem.W.OpenLaw} {w : World} {K : PySem.W.Frag} {h : Heap} {mg : Str → Option Value} {fa : Addr} (X : K.In h) (G : h.Ns mainGlobals mg) (hfa : mg "law" = some (.ref fa)) (hg : Good C.g_law_k82_2 63)
{f0 : Addr} {od0 an0 : Option Addr} {sl0 : Array (Option Value)} {oc0 kV0 dc0 pm0 cd0 ct0 : Value}
    (a0 : PySem.W.nsIn K mainGlobals "is_whole" = some (some (.ref f0))) (l0 : K.lookup f0 = some ⟨oc0, od0, .func (PySem.W.fnOf "is_whole" "is_whole" (defArgs s_is_whole) (defBody s_is_whole) (defScope s_is_whole) .none kV0 dc0 pm0 an0 cd0 ct0), sl0⟩) (c0 : PySem.W.codeIn K cd0 "is_whole" = true) (k0 : PySem.W.keepIn K (.ref f0) = true)
{f1 : Addr} {od1 an1 : Option Addr} {sl1 : Array (Option Value)} {oc1 kV1 dc1 pm1 cd1 ct1 : Value}
    (a1 : PySem.W.nsIn K mainGlobals "is_upto" = some (some (.ref f1))) (l1 : K.lookup f1 = some ⟨oc1, od1, .func (PySem.W.fnOf "is_upto" "is_upto" (defArgs s_is_upto) (defBody s_is_upto) (defScope s_is_upto) .none kV1 dc1 pm1 an1 cd1 ct1), sl1⟩) (c1 : PySem.W.codeIn K cd1 "is_upto" = true) (k1 : PySem.W.keepIn K (.ref f1) = true)
{f2 : Addr} {od2 an2 : Option Addr} {sl2 : Array (Option Value)} {oc2 kV2 dc2 pm2 cd2 ct2 : Value}
    (a2 : PySem.W.nsIn K mainGlobals "are_bits" = some (some (.ref f2))) (l2 : K.lookup f2 = some ⟨oc2, od2, .func (PySem.W.fnOf "are_bits" "are_bits" (defArgs s_are_bits) (defBody s_are_bits) (defScope s_are_bits) .none kV2 dc2 pm2 an2 cd2 ct2), sl2⟩) (c2 : PySem.W.codeIn K cd2 "are_bits" = true) (k2 : PySem.W.keepIn K (.ref f2) = true)
{f3 : Addr} {od3 an3 : Option Addr} {sl3 : Array (Option Value)} {oc3 kV3 dc3 pm3 cd3 ct3 : Value}
    (a3 : PySem.W.nsIn K mainGlobals "stands_of" = some (some (.ref f3))) (l3 : K.lookup f3 = some ⟨oc3, od3, .func (PySem.W.fnOf "stands_of" "stands_of" (defArgs s_stands_of) (defBody s_stands_of) (defScope s_stands_of) .none kV3 dc3 pm3 an3 cd3 ct3), sl3⟩) (c3 : PySem.W.codeIn K cd3 "stands_of" = true) (k3 : PySem.W.keepIn K (.ref f3) = true)
{f4 : Addr} {od4 an4 : Option Addr} {sl4 : Array (Option Value)} {oc4 kV4 dc4 pm4 cd4 ct4 : Value}
    (a4 : PySem.W.nsIn K mainGlobals "picked" = some (some (.ref f4))) (l4 : K.lookup f4 = some ⟨oc4, od4, .func (PySem.W.fnOf "picked" "picked" (defArgs s_picked) (defBody s_picked) (defScope s_picked) .none kV4 dc4 pm4 an4 cd4 ct4), sl4⟩) (c4 : PySem.W.codeIn K cd4 "picked" = true) (k4 : PySem.W.keepIn K (.ref f4) = true)
{f5 : Addr} {od5 an5 : Option Addr} {sl5 : Array (Option Value)} {oc5 kV5 dc5 pm5 cd5 ct5 : Value}
    (a5 : PySem.W.nsIn K mainGlobals "is_sight" = some (some (.ref f5))) (l5 : K.lookup f5 = some ⟨oc5, od5, .func (PySem.W.fnOf "is_sight" "is_sight" (defArgs s_is_sight) (defBody s_is_sight) (defScope s_is_sight) .none kV5 dc5 pm5 an5 cd5 ct5), sl5⟩) (c5 : PySem.W.codeIn K cd5 "is_sight" = true) (k5 : PySem.W.keepIn K (.ref f5) = true)
{f6 : Addr} {od6 an6 : Option Addr} {sl6 : Array (Option Value)} {oc6 kV6 dc6 pm6 cd6 ct6 : Value}
    (a6 : PySem.W.nsIn K mainGlobals "need_seen" = some (some (.ref f6))) (l6 : K.lookup f6 = some ⟨oc6, od6, .func (PySem.W.fnOf "need_seen" "need_seen" (defArgs s_need_seen) (defBody s_need_seen) (defScope s_need_seen) .none kV6 dc6 pm6 an6 cd6 ct6), sl6⟩) (c6 : PySem.W.codeIn K cd6 "need_seen" = true) (k6 : PySem.W.keepIn K (.ref f6) = true)
{f7 : Addr} {od7 an7 : Option Addr} {sl7 : Array (Option Value)} {oc7 kV7 dc7 pm7 cd7 ct7 : Value}
    (a7 : PySem.W.nsIn K mainGlobals "first_clash" = some (some (.ref f7))) (l7 : K.lookup f7 = some ⟨oc7, od7, .func (PySem.W.fnOf "first_clash" "first_clash" (defArgs s_first_clash) (defBody s_first_clash) (defScope s_first_clash) .none kV7 dc7 pm7 an7 cd7 ct7), sl7⟩) (c7 : PySem.W.codeIn K cd7 "first_clash" = true) (k7 : PySem.W.keepIn K (.ref f7) = true)
{f8 : Addr} {od8 an8 : Option Addr} {sl8 : Array (Option Value)} {oc8 kV8 dc8 pm8 cd8 ct8 : Value}
    (a8 : PySem.W.nsIn K mainGlobals "need_no_clash" = some (some (.ref f8))) (l8 : K.lookup f8 = some ⟨oc8, od8, .func (PySem.W.fnOf "need_no_clash" "need_no_clash" (defArgs s_need_no_clash) (defBody s_need_no_clash) (defScope s_need_no_clash) .none kV8 dc8 pm8 an8 cd8 ct8), sl8⟩) (c8 : PySem.W.codeIn K cd8 "need_no_clash" = true) (k8 : PySem.W.keepIn K (.ref f8) = true)
{f9 : Addr} {od9 an9 : Option Addr} {sl9 : Array (Option Value)} {oc9 kV9 dc9 pm9 cd9 ct9 : Value}
    (a9 : PySem.W.nsIn K mainGlobals "read_by" = some (some (.ref f9))) (l9 : K.lookup f9 = some ⟨oc9, od9, .func (PySem.W.fnOf "read_by" "read_by" (defArgs s_read_by) (defBody s_read_by) (defScope s_read_by) .none kV9 dc9 pm9 an9 cd9 ct9), sl9⟩) (c9 : PySem.W.codeIn K cd9 "read_by" = true) (k9 : PySem.W.keepIn K (.ref f9) = true)
{f10 : Addr} {od10 an10 : Option Addr} {sl10 : Array (Option Value)} {oc10 kV10 dc10 pm10 cd10 ct10 : Value}
    (a10 : PySem.W.nsIn K mainGlobals "bits_by" = some (some (.ref f10))) (l10 : K.lookup f10 = some ⟨oc10, od10, .func (PySem.W.fnOf "bits_by" "bits_by" (defArgs s_bits_by) (defBody s_bits_by) (defScope s_bits_by) .none kV10 dc10 pm10 an10 cd10 ct10), sl10⟩) (c10 : PySem.W.codeIn K cd10 "bits_by" = true) (k10 : PySem.W.keepIn K (.ref f10) = true)
{f11 : Addr} {od11 an11 : Option Addr} {sl11 : Array (Option Value)} {oc11 kV11 dc11 pm11 cd11 ct11 : Value}
    (a11 : PySem.W.nsIn K mainGlobals "fewest_ears" = some (some (.ref f11))) (l11 : K.lookup f11 = some ⟨oc11, od11, .func (PySem.W.fnOf "fewest_ears" "fewest_ears" (defArgs s_fewest_ears) (defBody s_fewest_ears) (defScope s_fewest_ears) .none kV11 dc11 pm11 an11 cd11 ct11), sl11⟩) (c11 : PySem.W.codeIn K cd11 "fewest_ears" = true) (k11 : PySem.W.keepIn K (.ref f11) = true)
{f12 : Addr} {od12 an12 : Option Addr} {sl12 : Array (Option Value)} {oc12 kV12 dc12 pm12 cd12 ct12 : Value}
    (a12 : PySem.W.nsIn K mainGlobals "rule_seen" = some (some (.ref f12))) (l12 : K.lookup f12 = some ⟨oc12, od12, .func (PySem.W.fnOf "rule_seen" "rule_seen" (defArgs s_rule_seen) (defBody s_rule_seen) (defScope s_rule_seen) .none kV12 dc12 pm12 an12 cd12 ct12), sl12⟩) (c12 : PySem.W.codeIn K cd12 "rule_seen" = true) (k12 : PySem.W.keepIn K (.ref f12) = true)
{f13 : Addr} {od13 an13 : Option Addr} {sl13 : Array (Option Value)} {oc13 kV13 dc13 pm13 cd13 ct13 : Value}
    (a13 : PySem.W.nsIn K mainGlobals "net_seen" = some (some (.ref f13))) (l13 : K.lookup f13 = some ⟨oc13, od13, .func (PySem.W.fnOf "net_seen" "net_seen" (defArgs s_net_seen) (defBody s_net_seen) (defScope s_net_seen) .none kV13 dc13 pm13 an13 cd13 ct13), sl13⟩) (c13 : PySem.W.codeIn K cd13 "net_seen" = true) (k13 : PySem.W.keepIn K (.ref f13) = true)
{f14 : Addr} {od14 an14 : Option Addr} {sl14 : Array (Option Value)} {oc14 kV14 dc14 pm14 cd14 ct14 : Value}
    (a14 : PySem.W.nsIn K mainGlobals "is_pair" = some (some (.ref f14))) (l14 : K.lookup f14 = some ⟨oc14, od14, .func (PySem.W.fnOf "is_pair" "is_pair" (defArgs s_is_pair) (defBody s_is_pair) (defScope s_is_pair) .none kV14 dc14 pm14 an14 cd14 ct14), sl14⟩) (c14 : PySem.W.codeIn K cd14 "is_pair" = true) (k14 : PySem.W.keepIn K (.ref f14) = true)
{f15 : Addr} {od15 an15 : Option Addr} {sl15 : Array (Option Value)} {oc15 kV15 dc15 pm15 cd15 ct15 : Value}
    (a15 : PySem.W.nsIn K mainGlobals "unlike_in" = some (some (.ref f15))) (l15 : K.lookup f15 = some ⟨oc15, od15, .func (PySem.W.fnOf "unlike_in" "unlike_in" (defArgs s_unlike_in) (defBody s_unlike_in) (defScope s_unlike_in) .none kV15 dc15 pm15 an15 cd15 ct15), sl15⟩) (c15 : PySem.W.codeIn K cd15 "unlike_in" = true) (k15 : PySem.W.keepIn K (.ref f15) = true)
{f16 : Addr} {od16 an16 : Option Addr} {sl16 : Array (Option Value)} {oc16 kV16 dc16 pm16 cd16 ct16 : Value}
    (a16 : PySem.W.nsIn K mainGlobals "least_through" = some (some (.ref f16))) (l16 : K.lookup f16 = some ⟨oc16, od16, .func (PySem.W.fnOf "least_through" "least_through" (defArgs s_least_through) (defBody s_least_through) (defScope s_least_through) .none kV16 dc16 pm16 an16 cd16 ct16), sl16⟩) (c16 : PySem.W.codeIn K cd16 "least_through" = true) (k16 : PySem.W.keepIn K (.ref f16) = true)
{f17 : Addr} {od17 an17 : Option Addr} {sl17 : Array (Option Value)} {oc17 kV17 dc17 pm17 cd17 ct17 : Value}
    (a17 : PySem.W.nsIn K mainGlobals "ears_shown" = some (some (.ref f17))) (l17 : K.lookup f17 = some ⟨oc17, od17, .func (PySem.W.fnOf "ears_shown" "ears_shown" (defArgs s_ears_shown) (defBody s_ears_shown) (defScope s_ears_shown) .none kV17 dc17 pm17 an17 cd17 ct17), sl17⟩) (c17 : PySem.W.codeIn K cd17 "ears_shown" = true) (k17 : PySem.W.keepIn K (.ref f17) = true)
{f18 : Addr} {od18 an18 : Option Addr} {sl18 : Array (Option Value)} {oc18 kV18 dc18 pm18 cd18 ct18 : Value}
    (a18 : PySem.W.nsIn K mainGlobals "is_least" = some (some (.ref f18))) (l18 : K.lookup f18 = some ⟨oc18, od18, .func (PySem.W.fnOf "is_least" "is_least" (defArgs s_is_least) (defBody s_is_least) (defScope s_is_least) .none kV18 dc18 pm18 an18 cd18 ct18), sl18⟩) (c18 : PySem.W.codeIn K cd18 "is_least" = true) (k18 : PySem.W.keepIn K (.ref f18) = true)
{f19 : Addr} {od19 an19 : Option Addr} {sl19 : Array (Option Value)} {oc19 kV19 dc19 pm19 cd19 ct19 : Value}
    (a19 : PySem.W.nsIn K mainGlobals "ear_paper" = some (some (.ref f19))) (l19 : K.lookup f19 = some ⟨oc19, od19, .func (PySem.W.fnOf "ear_paper" "ear_paper" (defArgs s_ear_paper) (defBody s_ear_paper) (defScope s_ear_paper) .none kV19 dc19 pm19 an19 cd19 ct19), sl19⟩) (c19 : PySem.W.codeIn K cd19 "ear_paper" = true) (k19 : PySem.W.keepIn K (.ref f19) = true)
{f20 : Addr} {od20 an20 : Option Addr} {sl20 : Array (Option Value)} {oc20 kV20 dc20 pm20 cd20 ct20 : Value}
    (a20 : PySem.W.nsIn K mainGlobals "_law_cell" = some (some (.ref f20))) (l20 : K.lookup f20 = some ⟨oc20, od20, .func (PySem.W.fnOf "_law_cell" "_law_cell" (defArgs s__law_cell) (defBody s__law_cell) (defScope s__law_cell) .none kV20 dc20 pm20 an20 cd20 ct20), sl20⟩) (c20 : PySem.W.codeIn K cd20 "_law_cell" = true) (k20 : PySem.W.keepIn K (.ref f20) = true)
{f21 : Addr} {od21 an21 : Option Addr} {sl21 : Array (Option Value)} {oc21 kV21 dc21 pm21 cd21 ct21 : Value}
    (a21 : PySem.W.nsIn K mainGlobals "_law_box" = some (some (.ref f21))) (l21 : K.lookup f21 = some ⟨oc21, od21, .func (PySem.W.fnOf "_law_box" "_law_box" (defArgs s__law_box) (defBody s__law_box) (defScope s__law_box) .none kV21 dc21 pm21 an21 cd21 ct21), sl21⟩) (c21 : PySem.W.codeIn K cd21 "_law_box" = true) (k21 : PySem.W.keepIn K (.ref f21) = true)
{f22 : Addr} {od22 an22 : Option Addr} {sl22 : Array (Option Value)} {oc22 kV22 dc22 pm22 cd22 ct22 : Value}
    (a22 : PySem.W.nsIn K mainGlobals "_law_take" = some (some (.ref f22))) (l22 : K.lookup f22 = some ⟨oc22, od22, .func (PySem.W.fnOf "_law_take" "_law_take" (defArgs s__law_take) (defBody s__law_take) (defScope s__law_take) .none kV22 dc22 pm22 an22 cd22 ct22), sl22⟩) (c22 : PySem.W.codeIn K cd22 "_law_take" = true) (k22 : PySem.W.keepIn K (.ref f22) = true)
{f23 : Addr} {od23 an23 : Option Addr} {sl23 : Array (Option Value)} {oc23 kV23 dc23 pm23 cd23 ct23 : Value}
    (a23 : PySem.W.nsIn K mainGlobals "_law_readings" = some (some (.ref f23))) (l23 : K.lookup f23 = some ⟨oc23, od23, .func (PySem.W.fnOf "_law_readings" "_law_readings" (defArgs s__law_readings) (defBody s__law_readings) (defScope s__law_readings) .none kV23 dc23 pm23 an23 cd23 ct23), sl23⟩) (c23 : PySem.W.codeIn K cd23 "_law_readings" = true) (k23 : PySem.W.keepIn K (.ref f23) = true)
{f24 : Addr} {od24 an24 : Option Addr} {sl24 : Array (Option Value)} {oc24 kV24 dc24 pm24 cd24 ct24 : Value}
    (a24 : PySem.W.nsIn K mainGlobals "_law_rule" = some (some (.ref f24))) (l24 : K.lookup f24 = some ⟨oc24, od24, .func (PySem.W.fnOf "_law_rule" "_law_rule" (defArgs s__law_rule) (defBody s__law_rule) (defScope s__law_rule) .none kV24 dc24 pm24 an24 cd24 ct24), sl24⟩) (c24 : PySem.W.codeIn K cd24 "_law_rule" = true) (k24 : PySem.W.keepIn K (.ref f24) = true)
{f25 : Addr} {od25 an25 : Option Addr} {sl25 : Array (Option Value)} {oc25 kV25 dc25 pm25 cd25 ct25 : Value}
    (a25 : PySem.W.nsIn K mainGlobals "_law_net" = some (some (.ref f25))) (l25 : K.lookup f25 = some ⟨oc25, od25, .func (PySem.W.fnOf "_law_net" "_law_net" (defArgs s__law_net) (defBody s__law_net) (defScope s__law_net) .none kV25 dc25 pm25 an25 cd25 ct25), sl25⟩) (c25 : PySem.W.codeIn K cd25 "_law_net" = true) (k25 : PySem.W.keepIn K (.ref f25) = true)
{f26 : Addr} {od26 an26 : Option Addr} {sl26 : Array (Option Value)} {oc26 kV26 dc26 pm26 cd26 ct26 : Value}
    (a26 : PySem.W.nsIn K mainGlobals "_law_told" = some (some (.ref f26))) (l26 : K.lookup f26 = some ⟨oc26, od26, .func (PySem.W.fnOf "_law_told" "_law_told" (defArgs s__law_told) (defBody s__law_told) (defScope s__law_told) .none kV26 dc26 pm26 an26 cd26 ct26), sl26⟩) (c26 : PySem.W.codeIn K cd26 "_law_told" = true) (k26 : PySem.W.keepIn K (.ref f26) = true)
{f27 : Addr} {od27 an27 : Option Addr} {sl27 : Array (Option Value)} {oc27 kV27 dc27 pm27 cd27 ct27 : Value}
    (a27 : PySem.W.nsIn K mainGlobals "_law_bits" = some (some (.ref f27))) (l27 : K.lookup f27 = some ⟨oc27, od27, .func (PySem.W.fnOf "_law_bits" "_law_bits" (defArgs s__law_bits) (defBody s__law_bits) (defScope s__law_bits) .none kV27 dc27 pm27 an27 cd27 ct27), sl27⟩) (c27 : PySem.W.codeIn K cd27 "_law_bits" = true) (k27 : PySem.W.keepIn K (.ref f27) = true)
{f28 : Addr} {od28 an28 : Option Addr} {sl28 : Array (Option Value)} {oc28 kV28 dc28 pm28 cd28 ct28 : Value}
    (a28 : PySem.W.nsIn K mainGlobals "_law_whole" = some (some (.ref f28))) (l28 : K.lookup f28 = some ⟨oc28, od28, .func (PySem.W.fnOf "_law_whole" "_law_whole" (defArgs s__law_whole) (defBody s__law_whole) (defScope s__law_whole) .none kV28 dc28 pm28 an28 cd28 ct28), sl28⟩) (c28 : PySem.W.codeIn K cd28 "_law_whole" = true) (k28 : PySem.W.keepIn K (.ref f28) = true)
{f29 : Addr} {od29 an29 : Option Addr} {sl29 : Array (Option Value)} {oc29 kV29 dc29 pm29 cd29 ct29 : Value}
    (a29 : PySem.W.nsIn K mainGlobals "_law_sights" = some (some (.ref f29))) (l29 : K.lookup f29 = some ⟨oc29, od29, .func (PySem.W.fnOf "_law_sights" "_law_sights" (defArgs s__law_sights) (defBody s__law_sights) (defScope s__law_sights) .none kV29 dc29 pm29 an29 cd29 ct29), sl29⟩) (c29 : PySem.W.codeIn K cd29 "_law_sights" = true) (k29 : PySem.W.keepIn K (.ref f29) = true)
{f30 : Addr} {od30 an30 : Option Addr} {sl30 : Array (Option Value)} {oc30 kV30 dc30 pm30 cd30 ct30 : Value}
    (a30 : PySem.W.nsIn K mainGlobals "_law_is_seen" = some (some (.ref f30))) (l30 : K.lookup f30 = some ⟨oc30, od30, .func (PySem.W.fnOf "_law_is_seen" "_law_is_seen" (defArgs s__law_is_seen) (defBody s__law_is_seen) (defScope s__law_is_seen) .none kV30 dc30 pm30 an30 cd30 ct30), sl30⟩) (c30 : PySem.W.codeIn K cd30 "_law_is_seen" = true) (k30 : PySem.W.keepIn K (.ref f30) = true)
{f31 : Addr} {od31 an31 : Option Addr} {sl31 : Array (Option Value)} {oc31 kV31 dc31 pm31 cd31 ct31 : Value}
    (a31 : PySem.W.nsIn K mainGlobals "_law_spoilt" = some (some (.ref f31))) (l31 : K.lookup f31 = some ⟨oc31, od31, .func (PySem.W.fnOf "_law_spoilt" "_law_spoilt" (defArgs s__law_spoilt) (defBody s__law_spoilt) (defScope s__law_spoilt) .none kV31 dc31 pm31 an31 cd31 ct31), sl31⟩) (c31 : PySem.W.codeIn K cd31 "_law_spoilt" = true) (k31 : PySem.W.keepIn K (.ref f31) = true)
{f32 : Addr} {od32 an32 : Option Addr} {sl32 : Array (Option Value)} {oc32 kV32 dc32 pm32 cd32 ct32 : Value}
    (a32 : PySem.W.nsIn K mainGlobals "_law_kind" = some (some (.ref f32))) (l32 : K.lookup f32 = some ⟨oc32, od32, .func (PySem.W.fnOf "_law_kind" "_law_kind" (defArgs s__law_kind) (defBody s__law_kind) (defScope s__law_kind) .none kV32 dc32 pm32 an32 cd32 ct32), sl32⟩) (c32 : PySem.W.codeIn K cd32 "_law_kind" = true) (k32 : PySem.W.keepIn K (.ref f32) = true)
{f33 : Addr} {od33 an33 : Option Addr} {sl33 : Array (Option Value)} {oc33 kV33 dc33 pm33 cd33 ct33 : Value}
    (a33 : PySem.W.nsIn K mainGlobals "_law_asked" = some (some (.ref f33))) (l33 : K.lookup f33 = some ⟨oc33, od33, .func (PySem.W.fnOf "_law_asked" "_law_asked" (defArgs s__law_asked) (defBody s__law_asked) (defScope s__law_asked) .none kV33 dc33 pm33 an33 cd33 ct33), sl33⟩) (c33 : PySem.W.codeIn K cd33 "_law_asked" = true) (k33 : PySem.W.keepIn K (.ref f33) = true)
{f34 : Addr} {od34 an34 : Option Addr} {sl34 : Array (Option Value)} {oc34 kV34 dc34 pm34 cd34 ct34 : Value}
    (a34 : PySem.W.nsIn K mainGlobals "_law_first" = some (some (.ref f34))) (l34 : K.lookup f34 = some ⟨oc34, od34, .func (PySem.W.fnOf "_law_first" "_law_first" (defArgs s__law_first) (defBody s__law_first) (defScope s__law_first) .none kV34 dc34 pm34 an34 cd34 ct34), sl34⟩) (c34 : PySem.W.codeIn K cd34 "_law_first" = true) (k34 : PySem.W.keepIn K (.ref f34) = true)
{f35 : Addr} {od35 an35 : Option Addr} {sl35 : Array (Option Value)} {oc35 kV35 dc35 pm35 cd35 ct35 : Value}
    (a35 : PySem.W.nsIn K mainGlobals "_law_doubled" = some (some (.ref f35))) (l35 : K.lookup f35 = some ⟨oc35, od35, .func (PySem.W.fnOf "_law_doubled" "_law_doubled" (defArgs s__law_doubled) (defBody s__law_doubled) (defScope s__law_doubled) .none kV35 dc35 pm35 an35 cd35 ct35), sl35⟩) (c35 : PySem.W.codeIn K cd35 "_law_doubled" = true) (k35 : PySem.W.keepIn K (.ref f35) = true)
{f36 : Addr} {od36 an36 : Option Addr} {sl36 : Array (Option Value)} {oc36 kV36 dc36 pm36 cd36 ct36 : Value}
    (a36 : PySem.W.nsIn K mainGlobals "law" = some (some (.ref f36))) (l36 : K.lookup f36 = some ⟨oc36, od36, .func (PySem.W.fnOf "law" "law" (defArgs s_law) (defBody s_law) (defScope s_law) .none kV36 dc36 pm36 an36 cd36 ct36), sl36⟩) (c36 : PySem.W.codeIn K cd36 "law" = true) (k36 : PySem.W.keepIn K (.ref f36) = true)
    {tk0 : Tok} (u0 : PySem.W.nsIn K mainGlobals "MOST_EARS" = some (some (.int 4 tk0)))
    {tk1 : Tok} (u1 : PySem.W.nsIn K mainGlobals "MOST_SEEN" = some (some (.int 200 tk1)))
    {C0 : Addr} (x0 : PySem.W.nsIn K mainGlobals "NoSeen" = some (some (.ref C0))) (xe0 : PySem.W.excIn K C0 Y.veB "ValueError.__new__" = true) (xk0 : PySem.W.keepIn K (.ref C0) = true) (xb0 : PySem.W.subIn K (.ref C0) (.type "BaseException") = some true) (xt0 : PySem.W.typeIn K (.ref C0) = some (.type "type"))
    {C1 : Addr} (x1 : PySem.W.nsIn K mainGlobals "TooMany" = some (some (.ref C1))) (xe1 : PySem.W.excIn K C1 Y.veB "ValueError.__new__" = true) (xk1 : PySem.W.keepIn K (.ref C1) = true) (xb1 : PySem.W.subIn K (.ref C1) (.type "BaseException") = some true) (xt1 : PySem.W.typeIn K (.ref C1) = some (.type "type"))
    {N0 : Addr} (n0 : PySem.W.nsIn K mainGlobals "Hears" = some (some (.ref N0)))
    {N1 : Addr} (n1 : PySem.W.nsIn K mainGlobals "NetError" = some (some (.ref N1)))
    {N2 : Addr} (n2 : PySem.W.nsIn K mainGlobals "NoDen" = some (some (.ref N2)))
    {N3 : Addr} (n3 : PySem.W.nsIn K mainGlobals "NoFrame" = some (some (.ref N3)))
    {N4 : Addr} (n4 : PySem.W.nsIn K mainGlobals "NoHolds" = some (some (.ref N4)))
    {N5 : Addr} (n5 : PySem.W.nsIn K mainGlobals "NoOrder" = some (some (.ref N5)))
    {N6 : Addr} (n6 : PySem.W.nsIn K mainGlobals "NoRow" = some (some (.ref N6)))
    {N7 : Addr} (n7 : PySem.W.nsIn K mainGlobals "NoRule" = some (some (.ref N7)))
    {N8 : Addr} (n8 : PySem.W.nsIn K mainGlobals "NoStand" = some (some (.ref N8)))
    {N9 : Addr} (n9 : PySem.W.nsIn K mainGlobals "NoSwitch" = some (some (.ref N9)))
    {N10 : Addr} (n10 : PySem.W.nsIn K mainGlobals "NoText" = some (some (.ref N10)))
    (hg0 : PySem.W.findIn K (.ref C0) "__getattribute__" = some (some (.builtin "BaseException.__getattribute__"))) (hk0 : PySem.W.findIn K (.ref C0) "__getattr__" = some none) (hs0 : PySem.W.subIn K (.ref C0) (.type "BaseException") = some true) (hd0 : PySem.W.hasDictIn K C0 = true) (ha0 : PySem.W.findIn K (.ref C0) "__class__" = some (some (.builtin "object.__class__"))) (hn0 : PySem.W.specialIn K (.builtin "object.__class__") "__get__" = some (some (.builtin "getset_descriptor.__get__"))) (ht0 : PySem.W.takesIn K (.builtin "object.__class__") = some true) (hm0 : PySem.W.mroIn K C0 (.type "object") = some true)
    (hg1 : PySem.W.findIn K (.ref C1) "__getattribute__" = some (some (.builtin "BaseException.__getattribute__"))) (hk1 : PySem.W.findIn K (.ref C1) "__getattr__" = some none) (hs1 : PySem.W.subIn K (.ref C1) (.type "BaseException") = some true) (hd1 : PySem.W.hasDictIn K C1 = true) (ha1 : PySem.W.findIn K (.ref C1) "__class__" = some (some (.builtin "object.__class__"))) (hn1 : PySem.W.specialIn K (.builtin "object.__class__") "__get__" = some (some (.builtin "getset_descriptor.__get__"))) (ht1 : PySem.W.takesIn K (.builtin "object.__class__") = some true) (hm1 : PySem.W.mroIn K C1 (.type "object") = some true)
    (td0 : PySem.W.hasDictIn K N0 = true) (tt0 : PySem.W.typeIn K (.ref N0) = some (.type "type")) (tb0 : PySem.W.subIn K (.ref N0) (.type "BaseException") = some true)
    (td1 : PySem.W.hasDictIn K N1 = true) (tt1 : PySem.W.typeIn K (.ref N1) = some (.type "type")) (tb1 : PySem.W.subIn K (.ref N1) (.type "BaseException") = some true)
    (td2 : PySem.W.hasDictIn K N2 = true) (tt2 : PySem.W.typeIn K (.ref N2) = some (.type "type")) (tb2 : PySem.W.subIn K (.ref N2) (.type "BaseException") = some true)
    (td3 : PySem.W.hasDictIn K N3 = true) (tt3 : PySem.W.typeIn K (.ref N3) = some (.type "type")) (tb3 : PySem.W.subIn K (.ref N3) (.type "BaseException") = some true)
    (td4 : PySem.W.hasDictIn K N4 = true) (tt4 : PySem.W.typeIn K (.ref N4) = some (.type "type")) (tb4 : PySem.W.subIn K (.ref N4) (.type "BaseException") = some true)
    (td5 : PySem.W.hasDictIn K N5 = true) (tt5 : PySem.W.typeIn K (.ref N5) = some (.type "type")) (tb5 : PySem.W.subIn K (.ref N5) (.type "BaseException") = some true)
    (td6 : PySem.W.hasDictIn K N6 = true) (tt6 : PySem.W.typeIn K (.ref N6) = some (.type "type")) (tb6 : PySem.W.subIn K (.ref N6) (.type "BaseException") = some true)
    (td7 : PySem.W.hasDictIn K N7 = true) (tt7 : PySem.W.typeIn K (.ref N7) = some (.type "type")) (tb7 : PySem.W.subIn K (.ref N7) (.type "BaseException") = some true)
    (td8 : PySem.W.hasDictIn K C0 = true) (tt8 : PySem.W.typeIn K (.ref C0) = some (.type "type")) (tb8 : PySem.W.subIn K (.ref C0) (.type "BaseException") = some true)
    (td9 : PySem.W.hasDictIn K N8 = true) (tt9 : PySem.W.typeIn K (.ref N8) = some (.type "type")) (tb9 : PySem.W.subIn K (.ref N8) (.type "BaseException") = some true)
    (td10 : PySem.W.hasDictIn K N9 = true) (tt10 : PySem.W.typeIn K (.ref N9) = some (.type "type")) (tb10 : PySem.W.subIn K (.ref N9) (.type "BaseException") = some true)
    (td11 : PySem.W.hasDictIn K N10 = true) (tt11 : PySem.W.typeIn K (.ref N10) = some (.type "type")) (tb11 : PySem.W.subIn K (.ref N10) (.type "BaseException") = some true)
    (td12 : PySem.W.hasDictIn K C1 = true) (tt12 : PySem.W.typeIn K (.ref C1) = some (.type "type")) (tb12 : PySem.W.subIn K (.ref C1) (.type "BaseException") = some true)
    (self0 : PySem.W.subIn K (.ref C0) (.ref C0) = some true)
    (self1 : PySem.W.subIn K (.ref C1) (.ref C1) = some true)
    (kx0 : PySem.W.subIn K (.ref C0) (.ref N1) = some true)
    (kx1 : PySem.W.subIn K (.ref C1) (.ref N1) = some true)
    (ki0 : PySem.W.subIn K (.ref C0) (.ref N0) = some false)
    (ki1 : PySem.W.subIn K (.ref C0) (.ref N2) = some false)
    (ki2 : PySem.W.subIn K (.ref C0) (.ref N3) = some false)
    (ki3 : PySem.W.subIn K (.ref C0) (.ref N4) = some false)
    (ki4 : PySem.W.subIn K (.ref C0) (.ref N5) = some false)
    (ki5 : PySem.W.subIn K (.ref C0) (.ref N6) = some false)
    (ki6 : PySem.W.subIn K (.ref C0) (.ref N7) = some false)
    (ki7 : PySem.W.subIn K (.ref C0) (.ref C0) = some true)
    (ki8 : PySem.W.subIn K (.ref C0) (.ref N8) = some false)
    (ki9 : PySem.W.subIn K (.ref C0) (.ref N9) = some false)
    (ki10 : PySem.W.subIn K (.ref C0) (.ref N10) = some false)
    (ki11 : PySem.W.subIn K (.ref C0) (.ref C1) = some false)
    (ki12 : PySem.W.subIn K (.ref C1) (.ref N0) = some false)
    (ki13 : PySem.W.subIn K (.ref C1) (.ref N2) = some false)
    (ki14 : PySem.W.subIn K (.ref C1) (.ref N3) = some false)
    (ki15 : PySem.W.subIn K (.ref C1) (.ref N4) = some false)
    (ki16 : PySem.W.subIn K (.ref C1) (.ref N5) = some false)
    (ki17 : PySem.W.subIn K (.ref C1) (.ref N6) = some false)
    (ki18 : PySem.W.subIn K (.ref C1) (.ref N7) = some false)
    (ki19 : PySem.W.subIn K (.ref C1) (.ref C0) = some false)
    (ki20 : PySem.W.subIn K (.ref C1) (.ref N8) = some false)
    (ki21 : PySem.W.subIn K (.ref C1) (.ref N9) = some false)
    (ki22 : PySem.W.subIn K (.ref C1) (.ref N10) = some false)
    (ki23 : PySem.W.subIn K (.ref C1) (.ref C1) = some true)
    (kv0 : PySem.W.subIn K (.ref C0) (.type "ValueError") = some true)
    (kv1 : PySem.W.subIn K (.ref C1) (.type "ValueError") = some true)
    (z0 : PySem.W.nsIn K mainGlobals "ValueError" = some none)
    (z1 : PySem.W.nsIn K mainGlobals "all" = some none)
    (z2 : PySem.W.nsIn K mainGlobals "any" = some none)
    (z3 : PySem.W.nsIn K mainGlobals "bool" = some none)
    (z4 : PySem.W.nsIn K mainGlobals "int" = some none)
    (z5 : PySem.W.nsIn K mainGlobals "isinstance" = some none)
    (z6 : PySem.W.nsIn K mainGlobals "len" = some none)
    (z7 : PySem.W.nsIn K mainGlobals "list" = some none)
    (z8 : PySem.W.nsIn K mainGlobals "max" = some none)
    (z9 : PySem.W.nsIn K mainGlobals "min" = some none)
    (z10 : PySem.W.nsIn K mainGlobals "range" = some none)
    (z11 : PySem.W.nsIn K mainGlobals "sorted" = some none)
    (z12 : PySem.W.nsIn K mainGlobals "sum" = some none)
    (z13 : PySem.W.nsIn K mainGlobals "tuple" = some none)
    : ∃ fd : FuncData, (∀ (s : Shared) (u : Value), BindsTo s fd ⟨[u], []⟩ [("script", u)]) ∧ ∀ base : Heap, K.In base → base.Ns mainGlobals mg → FnOk l.prog w K mg base (L2N.CX l.prog w) 46 fa fd ["script"] (spL K 63) :=
  have T : Txt K mg := ⟨def_mk X G a0 l0 c0 k0, def_mk X G a1 l1 c1 k1, def_mk X G a2 l2 c2 k2, def_mk X G a3 l3 c3 k3, def_mk X G a4 l4 c4 k4, def_mk X G a5 l5 c5 k5, def_mk X G a6 l6 c6 k6, def_mk X G a7 l7 c7 k7, def_mk X G a8 l8 c8 k8, def_mk X G a9 l9 c9 k9, def_mk X G a10 l10 c10 k10, def_mk X G a11 l11 c11 k11, def_mk X G a12 l12 c12 k12, def_mk X G a13 l13 c13 k13, def_mk X G a14 l14 c14 k14, def_mk X G a15 l15 c15 k15, def_mk X G a16 l16 c16 k16, def_mk X G a17 l17 c17 k17, def_mk X G a18 l18 c18 k18, def_mk X G a19 l19 c19 k19, def_mk X G a20 l20 c20 k20, def_mk X G a21 l21 c21 k21, def_mk X G a22 l22 c22 k22, def_mk X G a23 l23 c23 k23, def_mk X G a24 l24 c24 k24, def_mk X G a25 l25 c25 k25, def_mk X G a26 l26 c26 k26, def_mk X G a27 l27 c27 k27, def_mk X G a28 l28 c28 k28, def_mk X G a29 l29 c29 k29, def_mk X G a30 l30 c30 k30, def_mk X G a31 l31 c31 k31, def_mk X G a32 l32 c32 k32, def_mk X G a33 l33 c33 k33, def_mk X G a34 l34 c34 k34, def_mk X G a35 l35 c35 k35, ⟨_, PySem.W.mg_of X G u0⟩, ⟨_, PySem.W.mg_of X G u1⟩, ⟨⟨_, PySem.W.mg_of X G x0, xe0, xk0, xb0, xt0⟩⟩, ⟨⟨_, PySem.W.mg_of X G x1, xe1, xk1, xb1, xt1⟩⟩, PySem.W.mg_none_of X G z0, PySem.W.mg_none_of X G z1, PySem.W.mg_none_of X G z2, PySem.W.mg_none_of X G z3, PySem.W.mg_none_of X G z4, PySem.W.mg_none_of X G z5, PySem.W.mg_none_of X G z6, PySem.W.mg_none_of X G z7, PySem.W.mg_none_of X G z8, PySem.W.mg_none_of X G z9, PySem.W.mg_none_of X G z10, PySem.W.mg_none_of X G z11, PySem.W.mg_none_of X G z12, PySem.W.mg_none_of X G z13, ⟨⟨_, PySem.W.mg_of X G n1, (all_cons ⟨C0, PySem.W.mg_of X G x0, PySem.W.exm_ref tb1 td1 tt1 kx0⟩ (all_cons ⟨C1, PySem.W.mg_of X G x1, PySem.W.exm_ref tb1 td1 tt1 kx1⟩ all_nil))⟩⟩, (all_cons ⟨⟨C0, PySem.W.mg_of X G x0, ⟨hg0, hk0, hs0, hd0, ha0, hn0, ht0, hm0⟩⟩⟩ (all_cons ⟨⟨C1, PySem.W.mg_of X G x1, ⟨hg1, hk1, hs1, hd1, ha1, hn1, ht1, hm1⟩⟩⟩ all_nil)), ⟨⟨_, PySem.W.mg_of X G n1, (all_cons ⟨C0, PySem.W.mg_of X G x0, PySem.W.exm_ref tb1 td1 tt1 kx0⟩ (all_cons ⟨C1, PySem.W.mg_of X G x1, PySem.W.exm_ref tb1 td1 tt1 kx1⟩ all_nil))⟩⟩, (all_cons ⟨⟨C0, PySem.W.mg_of X G x0, ⟨hg0, hk0, hs0, hd0, ha0, hn0, ht0, hm0⟩⟩⟩ (all_cons ⟨⟨C1, PySem.W.mg_of X G x1, ⟨hg1, hk1, hs1, hd1, ha1, hn1, ht1, hm1⟩⟩⟩ all_nil)), ⟨PySem.W.mg_none_of X G z0, (all_cons ⟨C0, PySem.W.mg_of X G x0, kit_ve kv0⟩ (all_cons ⟨C1, PySem.W.mg_of X G x1, kit_ve kv1⟩ all_nil))⟩, ⟨⟨_, PySem.W.mg_of X G n0, (all_cons ⟨C0, PySem.W.mg_of X G x0, isi_of (kit_own self0 td0 tt0 ki0)⟩ (all_cons ⟨C1, PySem.W.mg_of X G x1, isi_of (kit_own self1 td0 tt0 ki12)⟩ all_nil))⟩⟩, ⟨⟨_, PySem.W.mg_of X G n2, (all_cons ⟨C0, PySem.W.mg_of X G x0, isi_of (kit_own self0 td2 tt2 ki1)⟩ (all_cons ⟨C1, PySem.W.mg_of X G x1, isi_of (kit_own self1 td2 tt2 ki13)⟩ all_nil))⟩⟩, ⟨⟨_, PySem.W.mg_of X G n3, (all_cons ⟨C0, PySem.W.mg_of X G x0, isi_of (kit_own self0 td3 tt3 ki2)⟩ (all_cons ⟨C1, PySem.W.mg_of X G x1, isi_of (kit_own self1 td3 tt3 ki14)⟩ all_nil))⟩⟩, ⟨⟨_, PySem.W.mg_of X G n4, (all_cons ⟨C0, PySem.W.mg_of X G x0, isi_of (kit_own self0 td4 tt4 ki3)⟩ (all_cons ⟨C1, PySem.W.mg_of X G x1, isi_of (kit_own self1 td4 tt4 ki15)⟩ all_nil))⟩⟩, ⟨⟨_, PySem.W.mg_of X G n5, (all_cons ⟨C0, PySem.W.mg_of X G x0, isi_of (kit_own self0 td5 tt5 ki4)⟩ (all_cons ⟨C1, PySem.W.mg_of X G x1, isi_of (kit_own self1 td5 tt5 ki16)⟩ all_nil))⟩⟩, ⟨⟨_, PySem.W.mg_of X G n6, (all_cons ⟨C0, PySem.W.mg_of X G x0, isi_of (kit_own self0 td6 tt6 ki5)⟩ (all_cons ⟨C1, PySem.W.mg_of X G x1, isi_of (kit_own self1 td6 tt6 ki17)⟩ all_nil))⟩⟩, ⟨⟨_, PySem.W.mg_of X G n7, (all_cons ⟨C0, PySem.W.mg_of X G x0, isi_of (kit_own self0 td7 tt7 ki6)⟩ (all_cons ⟨C1, PySem.W.mg_of X G x1, isi_of (kit_own self1 td7 tt7 ki18)⟩ all_nil))⟩⟩, ⟨⟨_, PySem.W.mg_of X G x0, (all_cons ⟨C0, PySem.W.mg_of X G x0, isi_of (kit_own self0 td8 tt8 ki7)⟩ (all_cons ⟨C1, PySem.W.mg_of X G x1, isi_of (kit_own self1 td8 tt8 ki19)⟩ all_nil))⟩⟩, ⟨⟨_, PySem.W.mg_of X G n8, (all_cons ⟨C0, PySem.W.mg_of X G x0, isi_of (kit_own self0 td9 tt9 ki8)⟩ (all_cons ⟨C1, PySem.W.mg_of X G x1, isi_of (kit_own self1 td9 tt9 ki20)⟩ all_nil))⟩⟩, ⟨⟨_, PySem.W.mg_of X G n9, (all_cons ⟨C0, PySem.W.mg_of X G x0, isi_of (kit_own self0 td10 tt10 ki9)⟩ (all_cons ⟨C1, PySem.W.mg_of X G x1, isi_of (kit_own self1 td10 tt10 ki21)⟩ all_nil))⟩⟩, ⟨⟨_, PySem.W.mg_of X G n10, (all_cons ⟨C0, PySem.W.mg_of X G x0, isi_of (kit_own self0 td11 tt11 ki10)⟩ (all_cons ⟨C1, PySem.W.mg_of X G x1, isi_of (kit_own self1 td11 tt11 ki22)⟩ all_nil))⟩⟩, ⟨⟨_, PySem.W.mg_of X G x1, (all_cons ⟨C0, PySem.W.mg_of X G x0, isi_of (kit_own self0 td12 tt12 ki11)⟩ (all_cons ⟨C1, PySem.W.mg_of X G x1, isi_of (kit_own self1 td12 tt12 ki23)⟩ all_nil))⟩⟩⟩
  law_all X G hfa hg (fun base {f} {fd} F => ok_law T F) (fun _ _ _ _ _ _ s u => .of_eq rfl) a36 l36 c36 k36
end K82
open PySem PySem.W PyProof.Rows
set_option maxHeartbeats 0 in
theorem PySem.Challenge.cw_switchnets_k82_clashes_holds : PySem.Challenge.rw_switchnets_k82_clashes.Holds := by
  w_on; o_law; k_head; (case hw => w_witness2)
  k_fill
  refine L2.walk_ofB (l := PySem.Challenge.rw_switchnets_k82_clashes) (n := 63) (k := 46) (x := "script") (CX := fun w => L2N.CX PySem.Challenge.rw_switchnets_k82_clashes.prog w) (sp := fun w => Y.spL _ 63) rfl (by decide) rfl ⟨rfl, by decide, by decide⟩ (fun w h Z => PySem.W.kIn_of Z) ?F (fun _ _ a ns hl hb _ hS => ⟨a, ns, rfl, hS, hl, hb, fun _ => rfl⟩) (fun _ _ _ _ _ h => Y.cx_none h)
  case F =>
    intro w mg fa h KX G hmg
    refine' K82.all KX G hmg K82.good_law ?a0 ?l0 ?c0 ?k0 ?a1 ?l1 ?c1 ?k1 ?a2 ?l2 ?c2 ?k2 ?a3 ?l3 ?c3 ?k3 ?a4 ?l4 ?c4 ?k4 ?a5 ?l5 ?c5 ?k5 ?a6 ?l6 ?c6 ?k6 ?a7 ?l7 ?c7 ?k7 ?a8 ?l8 ?c8 ?k8 ?a9 ?l9 ?c9 ?k9 ?a10 ?l10 ?c10 ?k10 ?a11 ?l11 ?c11 ?k11 ?a12 ?l12 ?c12 ?k12 ?a13 ?l13 ?c13 ?k13 ?a14 ?l14 ?c14 ?k14 ?a15 ?l15 ?c15 ?k15 ?a16 ?l16 ?c16 ?k16 ?a17 ?l17 ?c17 ?k17 ?a18 ?l18 ?c18 ?k18 ?a19 ?l19 ?c19 ?k19 ?a20 ?l20 ?c20 ?k20 ?a21 ?l21 ?c21 ?k21 ?a22 ?l22 ?c22 ?k22 ?a23 ?l23 ?c23 ?k23 ?a24 ?l24 ?c24 ?k24 ?a25 ?l25 ?c25 ?k25 ?a26 ?l26 ?c26 ?k26 ?a27 ?l27 ?c27 ?k27 ?a28 ?l28 ?c28 ?k28 ?a29 ?l29 ?c29 ?k29 ?a30 ?l30 ?c30 ?k30 ?a31 ?l31 ?c31 ?k31 ?a32 ?l32 ?c32 ?k32 ?a33 ?l33 ?c33 ?k33 ?a34 ?l34 ?c34 ?k34 ?a35 ?l35 ?c35 ?k35 ?a36 ?l36 ?c36 ?k36 ?u0 ?u1 ?x0 ?xe0 ?xk0 ?xb0 ?xt0 ?x1 ?xe1 ?xk1 ?xb1 ?xt1 ?n0 ?n1 ?n2 ?n3 ?n4 ?n5 ?n6 ?n7 ?n8 ?n9 ?n10 ?hg0 ?hk0 ?hs0 ?hd0 ?ha0 ?hn0 ?ht0 ?hm0 ?hg1 ?hk1 ?hs1 ?hd1 ?ha1 ?hn1 ?ht1 ?hm1 ?td0 ?tt0 ?tb0 ?td1 ?tt1 ?tb1 ?td2 ?tt2 ?tb2 ?td3 ?tt3 ?tb3 ?td4 ?tt4 ?tb4 ?td5 ?tt5 ?tb5 ?td6 ?tt6 ?tb6 ?td7 ?tt7 ?tb7 ?td8 ?tt8 ?tb8 ?td9 ?tt9 ?tb9 ?td10 ?tt10 ?tb10 ?td11 ?tt11 ?tb11 ?td12 ?tt12 ?tb12 ?self0 ?self1 ?kx0 ?kx1 ?ki0 ?ki1 ?ki2 ?ki3 ?ki4 ?ki5 ?ki6 ?ki7 ?ki8 ?ki9 ?ki10 ?ki11 ?ki12 ?ki13 ?ki14 ?ki15 ?ki16 ?ki17 ?ki18 ?ki19 ?ki20 ?ki21 ?ki22 ?ki23 ?kv0 ?kv1 ?z0 ?z1 ?z2 ?z3 ?z4 ?z5 ?z6 ?z7 ?z8 ?z9 ?z10 ?z11 ?z12 ?z13
    (case a0 => k_is); (case l0 => k_is); (case c0 => k_is); (case k0 => k_is); (case a1 => k_is); (case l1 => k_is); (case c1 => k_is); (case k1 => k_is); (case a2 => k_is); (case l2 => k_is); (case c2 => k_is); (case k2 => k_is); (case a3 => k_is); (case l3 => k_is); (case c3 => k_is); (case k3 => k_is); (case a4 => k_is); (case l4 => k_is); (case c4 => k_is); (case k4 => k_is); (case a5 => k_is); (case l5 => k_is); (case c5 => k_is); (case k5 => k_is); (case a6 => k_is); (case l6 => k_is); (case c6 => k_is); (case k6 => k_is); (case a7 => k_is); (case l7 => k_is); (case c7 => k_is); (case k7 => k_is); (case a8 => k_is); (case l8 => k_is); (case c8 => k_is); (case k8 => k_is); (case a9 => k_is); (case l9 => k_is); (case c9 => k_is); (case k9 => k_is); (case a10 => k_is); (case l10 => k_is); (case c10 => k_is); (case k10 => k_is); (case a11 => k_is); (case l11 => k_is); (case c11 => k_is); (case k11 => k_is); (case a12 => k_is); (case l12 => k_is); (case c12 => k_is); (case k12 => k_is); (case a13 => k_is); (case l13 => k_is); (case c13 => k_is); (case k13 => k_is); (case a14 => k_is); (case l14 => k_is); (case c14 => k_is); (case k14 => k_is); (case a15 => k_is); (case l15 => k_is); (case c15 => k_is); (case k15 => k_is); (case a16 => k_is); (case l16 => k_is); (case c16 => k_is); (case k16 => k_is); (case a17 => k_is); (case l17 => k_is); (case c17 => k_is); (case k17 => k_is); (case a18 => k_is); (case l18 => k_is); (case c18 => k_is); (case k18 => k_is); (case a19 => k_is); (case l19 => k_is); (case c19 => k_is); (case k19 => k_is); (case a20 => k_is); (case l20 => k_is); (case c20 => k_is); (case k20 => k_is); (case a21 => k_is); (case l21 => k_is); (case c21 => k_is); (case k21 => k_is); (case a22 => k_is); (case l22 => k_is); (case c22 => k_is); (case k22 => k_is); (case a23 => k_is); (case l23 => k_is); (case c23 => k_is); (case k23 => k_is); (case a24 => k_is); (case l24 => k_is); (case c24 => k_is); (case k24 => k_is); (case a25 => k_is); (case l25 => k_is); (case c25 => k_is); (case k25 => k_is); (case a26 => k_is); (case l26 => k_is); (case c26 => k_is); (case k26 => k_is); (case a27 => k_is); (case l27 => k_is); (case c27 => k_is); (case k27 => k_is); (case a28 => k_is); (case l28 => k_is); (case c28 => k_is); (case k28 => k_is); (case a29 => k_is); (case l29 => k_is); (case c29 => k_is); (case k29 => k_is); (case a30 => k_is); (case l30 => k_is); (case c30 => k_is); (case k30 => k_is); (case a31 => k_is); (case l31 => k_is); (case c31 => k_is); (case k31 => k_is); (case a32 => k_is); (case l32 => k_is); (case c32 => k_is); (case k32 => k_is); (case a33 => k_is); (case l33 => k_is); (case c33 => k_is); (case k33 => k_is); (case a34 => k_is); (case l34 => k_is); (case c34 => k_is); (case k34 => k_is); (case a35 => k_is); (case l35 => k_is); (case c35 => k_is); (case k35 => k_is); (case a36 => k_is); (case l36 => k_is); (case c36 => k_is); (case k36 => k_is); (case u0 => k_is); (case u1 => k_is); (case x0 => k_is); (case xe0 => k_exc); (case xk0 => k_is); (case xb0 => k_is); (case xt0 => k_is); (case x1 => k_is); (case xe1 => k_exc); (case xk1 => k_is); (case xb1 => k_is); (case xt1 => k_is); (case n0 => k_is); (case n1 => k_is); (case n2 => k_is); (case n3 => k_is); (case n4 => k_is); (case n5 => k_is); (case n6 => k_is); (case n7 => k_is); (case n8 => k_is); (case n9 => k_is); (case n10 => k_is); (case hg0 => k_is); (case hk0 => k_is); (case hs0 => k_is); (case hd0 => k_is); (case ha0 => k_is); (case hn0 => k_is); (case ht0 => k_is); (case hm0 => k_is); (case hg1 => k_is); (case hk1 => k_is); (case hs1 => k_is); (case hd1 => k_is); (case ha1 => k_is); (case hn1 => k_is); (case ht1 => k_is); (case hm1 => k_is); (case td0 => k_is); (case tt0 => k_is); (case tb0 => k_is); (case td1 => k_is); (case tt1 => k_is); (case tb1 => k_is); (case td2 => k_is); (case tt2 => k_is); (case tb2 => k_is); (case td3 => k_is); (case tt3 => k_is); (case tb3 => k_is); (case td4 => k_is); (case tt4 => k_is); (case tb4 => k_is); (case td5 => k_is); (case tt5 => k_is); (case tb5 => k_is); (case td6 => k_is); (case tt6 => k_is); (case tb6 => k_is); (case td7 => k_is); (case tt7 => k_is); (case tb7 => k_is); (case td8 => k_is); (case tt8 => k_is); (case tb8 => k_is); (case td9 => k_is); (case tt9 => k_is); (case tb9 => k_is); (case td10 => k_is); (case tt10 => k_is); (case tb10 => k_is); (case td11 => k_is); (case tt11 => k_is); (case tb11 => k_is); (case td12 => k_is); (case tt12 => k_is); (case tb12 => k_is); (case self0 => k_is); (case self1 => k_is); (case kx0 => k_is); (case kx1 => k_is); (case ki0 => k_is); (case ki1 => k_is); (case ki2 => k_is); (case ki3 => k_is); (case ki4 => k_is); (case ki5 => k_is); (case ki6 => k_is); (case ki7 => k_is); (case ki8 => k_is); (case ki9 => k_is); (case ki10 => k_is); (case ki11 => k_is); (case ki12 => k_is); (case ki13 => k_is); (case ki14 => k_is); (case ki15 => k_is); (case ki16 => k_is); (case ki17 => k_is); (case ki18 => k_is); (case ki19 => k_is); (case ki20 => k_is); (case ki21 => k_is); (case ki22 => k_is); (case ki23 => k_is); (case kv0 => k_is); (case kv1 => k_is); (case z0 => k_is); (case z1 => k_is); (case z2 => k_is); (case z3 => k_is); (case z4 => k_is); (case z5 => k_is); (case z6 => k_is); (case z7 => k_is); (case z8 => k_is); (case z9 => k_is); (case z10 => k_is); (case z11 => k_is); (case z12 => k_is); (case z13 => k_is)

