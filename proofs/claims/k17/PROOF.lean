import PyProof.Rows.All
import Wide.All
import OpenK.AllK
import Wide.FinOn
import KE.KStateDown
import HandS.ForMost
import HandS.Exc
import HandS.IsInst
import HandS.Walk
import HandS.HeadHook2
import HandS.TupAny
import HandS.TupMul
import HandS.Wide
import PyProof.StrOps2
import HandS.SortInts
import HandS.Conv
import HandS.RaiseMore
import HandS.WideBits
import HandS.SetFor
import PyProof.ListStr
import HandS.Zip
import HandS.Style
import KE.GoesEnum
import HandS.ExcOwn
import HandS.HeadEnd
import HandS.HeadHook4
import HandS.Head2
import HandS.Head1
import HandS.Head0
import PySem.Challenge.RW_balancedhues_k17_checks_and_beads
set_option linter.all false
set_option maxRecDepth 100000
set_option maxHeartbeats 4000000
namespace Bq
open PySem
open PySem.Spec
open PyProof.Rows
open L2

/-! ### own values: tuples are trees; what may be changed stands in a store -/
inductive U where
  | non | bl (b : Bool) | int (i : Int) | str (s : List Nat) | tup (xs : List U) | loc (n : Nat) | ty (n : String) | cl (xs : List U)
  deriving Inhabited
abbrev Fld := Str
inductive Ob where
  | lst (xs : List U)
  | frz (xs : List U)
  | ins (C : Nat) (fs : List (Str × U))
  | dct (kvs : List (Key × U))
  deriving Inhabited
abbrev Sto := List Ob
inductive R (α : Type) where
  | ok (a : α) (S : Sto)
  | exc (c : Nat) (u : U) (S : Sto)
  | stuck
def R.bind {α β : Type} (r : R α) (f : α → Sto → R β) : R β := match r with
  | .ok a S => f a S
  | .exc c u S => .exc c u S
  | .stuck => .stuck
abbrev Evn := List (Option U)
abbrev Den (α : Type) := Evn → Sto → R α
def mkS (s : List Nat) : Str := ⟨s.toArray⟩
theorem mkS_len (s : List Nat) : (mkS s).length = s.length := by simp [mkS, Str.length]
theorem mkS_cps (s : Str) : mkS s.cps.toList = s := by cases s; simp [mkS]
theorem mkS_inj {s t : List Nat} : mkS s = mkS t ↔ s = t := by simp [mkS]

/-! ### what stands for what -/
/-- a list of the written part -/
def FragL (K : PySem.W.Frag) (a : Addr) (xs : List V) : Prop := ∃ (o : Obj) (its : Array Value) (n : Nat), K.lookup a = some o ∧ o.cls = .type "list" ∧ o.dict = none ∧ o.data = .seq its n ∧ its.size ≤ sizeLine ∧ Vals xs its.toList
section
variable (K : PySem.W.Frag) (cl : Nat → Addr)
mutual
def RU (ρ : List Addr) (H : Hp) : U → V → Prop
  | .non, v => v = .non
  | .bl b, v => v = .bl b
  | .int i, v => v = .int i
  | .str s, v => v = .str (mkS s)
  | .tup us, v => ∃ a vs, v = .ref a ∧ SqT K H a vs ∧ RUs ρ H us vs
  | .loc n, v => ∃ a, ρ[n]? = some a ∧ v = .ref a
  | .ty n, v => v = .ty n
  | .cl us, v => ∃ a vs, v = .ref a ∧ FragL K a vs ∧ RUs ρ H us vs
def RUs (ρ : List Addr) (H : Hp) : List U → List V → Prop
  | [], vs => vs = []
  | u :: us, vs => ∃ v vr, vs = v :: vr ∧ RU ρ H u v ∧ RUs ρ H us vr
end
/-- an object of the store at its address -/
def RO (ρ : List Addr) (H : Hp) : Ob → Addr → Prop
  | .lst us, a => ∃ vs, H a = some (.lst vs) ∧ RUs K ρ H us vs
  | .frz us, a => ∃ vs o, H a = some (.frz o (.lst vs)) ∧ RUs K ρ H us vs
  | .ins C fs, a => ∃ dx gs, H a = some (.ins (cl C) dx gs) ∧ gs.map (·.1) = fs.map (·.1) ∧ RUs K ρ H (fs.map (·.2)) (gs.map (·.2))
  | .dct kvs, a => ∃ ws, H a = some (.dK ws) ∧ ws.map (·.1) = kvs.map (·.1) ∧ RUs K ρ H (kvs.map (·.2)) (ws.map (·.2))
structure RS (ρ : List Addr) (H : Hp) (S : Sto) : Prop where
  len : ρ.length = S.length
  nd : ρ.Nodup
  ob : ∀ (n : Nat) (o : Ob) (a : Addr), S[n]? = some o → ρ[n]? = some a → RO K cl ρ H o a
end
structure Ext (ρ : List Addr) (H : Hp) (ρ' : List Addr) (H' : Hp) : Prop where
  pre : ∃ l, ρ' = ρ ++ l ∧ ∀ a ∈ l, H a = none
  same : ∀ a o, a ∉ ρ → H a = some o → H' a = some o
  live : ∀ a, H' a = none → H a = none
section
variable {K : PySem.W.Frag} {cl : Nat → Addr} {ρ ρ' ρ1 ρ2 : List Addr} {H H' H1 H2 : Hp} {S S' : Sto} {a : Addr}
theorem Ext.refl : Ext ρ H ρ H := ⟨⟨[], by simp, fun _ h => nomatch h⟩, fun _ _ _ h => h, fun _ h => h⟩
theorem Ext.trans (a : Ext ρ H ρ1 H1) (b : Ext ρ1 H1 ρ2 H2) : Ext ρ H ρ2 H2 := by
  obtain ⟨l, rfl, hl⟩ := a.pre
  obtain ⟨l2, rfl, hl2⟩ := b.pre
  refine ⟨⟨l ++ l2, by simp, fun x hx => ?_⟩, fun x o hx e => ?_, fun x e => a.live x (b.live x e)⟩
  · rcases List.mem_append.mp hx with h | h
    · exact hl x h
    · exact a.live x (hl2 x h)
  · have hn : x ∉ l := fun h => by have := hl x h; rw [e] at this; cases this
    exact b.same x o (fun h => (List.mem_append.mp h).elim hx hn) (a.same x o hx e)
/-- a new untracked-by-us object: a tuple, a list in the making -/
theorem Ext.fresh {p : Addr} {o : HO} (hp : H p = none) : Ext ρ H ρ (upd H p o) := by
  refine ⟨⟨[], by simp, fun _ h => nomatch h⟩, fun x u _ e => ?_, fun x e => ?_⟩
  · rw [upd_ne (ne_of_none e hp)]; exact e
  · by_cases hx : x = p
    · subst hx; rw [upd_same] at e; cases e
    · rw [upd_ne hx] at e; exact e
/-- a new object of the store -/
theorem Ext.new {p : Addr} {o : HO} (hp : H p = none) : Ext ρ H (ρ ++ [p]) (upd H p o) := by
  refine ⟨⟨[p], rfl, fun x h => by have : x = p := by simpa using h
                                   rw [this]; exact hp⟩, (Ext.fresh (ρ := ρ) hp).same, (Ext.fresh (ρ := ρ) hp).live⟩
/-- a tracked one, ours, changed -/
theorem Ext.put {p : Addr} {o : HO} (hp : p ∈ ρ) : Ext ρ H ρ (upd H p o) := by
  refine ⟨⟨[], by simp, fun _ h => nomatch h⟩, fun x u hx e => ?_, fun x e => ?_⟩
  · rw [upd_ne (by rintro rfl; exact hx hp)]; exact e
  · by_cases hx : x = p
    · subst hx; rw [upd_same] at e; cases e
    · rw [upd_ne hx] at e; exact e
theorem Ext.get (e : Ext ρ H ρ' H') {n : Nat} (h : ρ[n]? = some a) : ρ'[n]? = some a := by
  obtain ⟨l, rfl, _⟩ := e.pre
  rw [List.getElem?_append_left (List.getElem?_eq_some_iff.mp h).1]; exact h

/-- what is not ours: tuples, frozen things of other kinds -/
theorem RO.live {o : Ob} (h : RO K cl ρ H o a) : ∃ u, H a = some u := by
  cases o with
  | lst us => obtain ⟨_, h, _⟩ := h; exact ⟨_, h⟩
  | frz us => obtain ⟨_, _, h, _⟩ := h; exact ⟨_, h⟩
  | ins C fs => obtain ⟨_, _, h, _⟩ := h; exact ⟨_, h⟩
  | dct kvs => obtain ⟨_, h, _⟩ := h; exact ⟨_, h⟩
theorem RO.notup {o : Ob} {vs : List V} (h : RO K cl ρ H o a) : ¬ Rd H a (.tup vs) := by
  rintro (z | ⟨u, z⟩) <;> cases o with
  | lst us => obtain ⟨_, h, _⟩ := h; rw [h] at z; cases z
  | frz us => obtain ⟨_, _, h, _⟩ := h; rw [h] at z; cases z
  | ins C fs => obtain ⟨_, _, h, _⟩ := h; rw [h] at z; cases z
  | dct kvs => obtain ⟨_, h, _⟩ := h; rw [h] at z; cases z
theorem RS.mem (r : RS K cl ρ H S) (h : a ∈ ρ) : ∃ (n : Nat) (o : Ob), S[n]? = some o ∧ ρ[n]? = some a ∧ RO K cl ρ H o a := by
  obtain ⟨n, hn, e⟩ := List.getElem_of_mem h
  have hn' : n < S.length := by rw [← r.len]; exact hn
  have e1 : ρ[n]? = some a := by rw [List.getElem?_eq_getElem hn, e]
  have e2 : S[n]? = some S[n] := List.getElem?_eq_getElem hn'
  exact ⟨n, _, e2, e1, r.ob n _ a e2 e1⟩
theorem RS.notin (r : RS K cl ρ H S) (h : H a = none) : a ∉ ρ := fun hm => by
  obtain ⟨n, o, _, _, ro⟩ := r.mem hm
  obtain ⟨u, e⟩ := ro.live
  rw [h] at e; cases e
theorem RS.notup (r : RS K cl ρ H S) {vs : List V} (h : Rd H a (.tup vs)) : a ∉ ρ := fun hm => by
  obtain ⟨n, o, _, _, ro⟩ := r.mem hm
  exact ro.notup h
theorem SqT_ext (r : RS K cl ρ H S) (e : Ext ρ H ρ' H') {vs : List V} (h : SqT K H a vs) : SqT K H' a vs := by
  rcases h with h | h
  · have hn := r.notup h
    rcases h with h | ⟨o, h⟩
    · exact .inl (.inl (e.same _ _ hn h))
    · exact .inl (.inr ⟨o, e.same _ _ hn h⟩)
  · exact .inr h
mutual
theorem RU.ext (r : RS K cl ρ H S) (e : Ext ρ H ρ' H') : ∀ (u : U) (v : V), RU K ρ H u v → RU K ρ' H' u v
  | .non, _, h => by simpa [RU] using h
  | .bl _, _, h => by simpa [RU] using h
  | .int _, _, h => by simpa [RU] using h
  | .str _, _, h => by simpa [RU] using h
  | .ty _, _, h => by simpa [RU] using h
  | .loc n, v, h => by
    simp only [RU] at h ⊢
    obtain ⟨a, h1, h2⟩ := h
    exact ⟨a, e.get h1, h2⟩
  | .tup us, v, h => by
    simp only [RU] at h ⊢
    obtain ⟨a, vs, h1, h2, h3⟩ := h
    exact ⟨a, vs, h1, SqT_ext r e h2, RUs.ext r e us vs h3⟩
  | .cl us, v, h => by
    simp only [RU] at h ⊢
    obtain ⟨a, vs, h1, h2, h3⟩ := h
    exact ⟨a, vs, h1, h2, RUs.ext r e us vs h3⟩
theorem RUs.ext (r : RS K cl ρ H S) (e : Ext ρ H ρ' H') : ∀ (us : List U) (vs : List V), RUs K ρ H us vs → RUs K ρ' H' us vs
  | [], _, h => by simpa [RUs] using h
  | u :: us, vs, h => by
    simp only [RUs] at h ⊢
    obtain ⟨v, vr, rfl, h1, h2⟩ := h
    exact ⟨v, vr, rfl, RU.ext r e u v h1, RUs.ext r e us vr h2⟩
end
theorem RUs.length : ∀ {us : List U} {vs : List V}, RUs K ρ H us vs → us.length = vs.length
  | [], vs, h => by simp only [RUs] at h; subst h; rfl
  | u :: us, vs, h => by
    simp only [RUs] at h
    obtain ⟨v, vr, rfl, _, h2⟩ := h
    simp [RUs.length h2]
theorem RUs.get : ∀ {us : List U} {vs : List V} {i : Nat} {u : U}, RUs K ρ H us vs → us[i]? = some u → ∃ v, vs[i]? = some v ∧ RU K ρ H u v
  | [], _, i, u, _, e => by simp at e
  | u :: us, vs, i, w, h, e => by
    simp only [RUs] at h
    obtain ⟨v, vr, rfl, h1, h2⟩ := h
    cases i with
    | zero => simp at e; subst e; exact ⟨v, rfl, h1⟩
    | succ i =>
      obtain ⟨v', e1, e2⟩ := RUs.get (i := i) h2 (by simpa using e)
      exact ⟨v', by simpa using e1, e2⟩
theorem RUs.get2 {us : List U} {vs : List V} {i : Nat} {v : V} (h : RUs K ρ H us vs) (e : vs[i]? = some v) : ∃ u, us[i]? = some u ∧ RU K ρ H u v := by
  have hl := h.length
  have hi : i < us.length := by rw [hl]; exact (List.getElem?_eq_some_iff.mp e).1
  obtain ⟨v', e1, e2⟩ := h.get (List.getElem?_eq_getElem hi)
  rw [e] at e1; cases e1
  exact ⟨_, List.getElem?_eq_getElem hi, e2⟩
theorem RUs.append : ∀ {us ws : List U} {vs xs : List V}, RUs K ρ H us vs → RUs K ρ H ws xs → RUs K ρ H (us ++ ws) (vs ++ xs)
  | [], _, vs, _, h, h' => by simp only [RUs] at h; subst h; exact h'
  | u :: us, ws, vs, xs, h, h' => by
    simp only [RUs] at h
    obtain ⟨v, vr, rfl, h1, h2⟩ := h
    exact ⟨v, vr ++ xs, rfl, h1, RUs.append h2 h'⟩
theorem RUs.of_get : ∀ {us : List U} {vs : List V}, us.length = vs.length → (∀ (i : Nat) u v, us[i]? = some u → vs[i]? = some v → RU K ρ H u v) → RUs K ρ H us vs
  | [], [], _, _ => rfl
  | [], _ :: _, h, _ => by simp at h
  | _ :: _, [], h, _ => by simp at h
  | u :: us, v :: vs, h, g => ⟨v, vs, rfl, g 0 u v rfl rfl, RUs.of_get (by simpa using h) fun i a b ha hb => g (i + 1) a b (by simpa using ha) (by simpa using hb)⟩
theorem RUs.iff {us : List U} {vs : List V} : RUs K ρ H us vs ↔ us.length = vs.length ∧ ∀ (i : Nat) u v, us[i]? = some u → vs[i]? = some v → RU K ρ H u v :=
  ⟨fun h => ⟨h.length, fun i u v e e' => by obtain ⟨v', h1, h2⟩ := h.get e; rw [e'] at h1; cases h1; exact h2⟩, fun h => RUs.of_get h.1 h.2⟩
theorem RUs.set {us : List U} {vs : List V} {u : U} {v : V} (h : RUs K ρ H us vs) (r : RU K ρ H u v) (i : Nat) : RUs K ρ H (us.set i u) (vs.set i v) := by
  rw [RUs.iff] at h ⊢
  refine ⟨by simpa using h.1, fun j a b ha hb => ?_⟩
  by_cases hj : i = j
  · subst hj
    have hi : i < us.length := by have := (List.getElem?_eq_some_iff.mp ha).1; simpa using this
    have hi2 : i < vs.length := by rw [← h.1]; exact hi
    rw [List.getElem?_set_self hi] at ha
    rw [List.getElem?_set_self hi2] at hb
    cases ha; cases hb; exact r
  · rw [List.getElem?_set_ne hj] at ha hb
    exact h.2 j a b ha hb
theorem RUs.sub {us us' : List U} {vs vs' : List V} (h : RUs K ρ H us vs) (f : Nat → Nat) (hl : us'.length = vs'.length) (h1 : ∀ i u, us'[i]? = some u → us[f i]? = some u) (h2 : ∀ i v, vs'[i]? = some v → vs[f i]? = some v) : RUs K ρ H us' vs' :=
  RUs.of_get hl fun i u v e e' => (RUs.iff.mp h).2 (f i) u v (h1 i u e) (h2 i v e')
theorem RUs.take {us : List U} {vs : List V} (h : RUs K ρ H us vs) (n : Nat) : RUs K ρ H (us.take n) (vs.take n) :=
  h.sub id (by simp [h.length]) (fun i u e => by rw [List.getElem?_take] at e; split at e <;> simp_all) (fun i u e => by rw [List.getElem?_take] at e; split at e <;> simp_all)
theorem RUs.drop {us : List U} {vs : List V} (h : RUs K ρ H us vs) (n : Nat) : RUs K ρ H (us.drop n) (vs.drop n) :=
  h.sub (n + ·) (by simp [h.length]) (fun i u e => by rw [List.getElem?_drop] at e; exact e) (fun i u e => by rw [List.getElem?_drop] at e; exact e)
theorem RO.ext (r : RS K cl ρ H S) (e : Ext ρ H ρ' H') {o : Ob} (ho : H' a = H a) (h : RO K cl ρ H o a) : RO K cl ρ' H' o a := by
  cases o with
  | lst us => obtain ⟨vs, h1, h2⟩ := h; exact ⟨vs, by rw [ho]; exact h1, RUs.ext r e _ _ h2⟩
  | frz us => obtain ⟨vs, o, h1, h2⟩ := h; exact ⟨vs, o, by rw [ho]; exact h1, RUs.ext r e _ _ h2⟩
  | ins C fs => obtain ⟨dx, gs, h1, h2, h3⟩ := h; exact ⟨dx, gs, by rw [ho]; exact h1, h2, RUs.ext r e _ _ h3⟩
  | dct kvs => obtain ⟨ws, h1, h2, h3⟩ := h; exact ⟨ws, by rw [ho]; exact h1, h2, RUs.ext r e _ _ h3⟩
/-- a fresh address that is not of the store -/
theorem RS.fresh (r : RS K cl ρ H S) {p : Addr} {o : HO} (hp : H p = none) : RS K cl ρ (upd H p o) S :=
  ⟨r.len, r.nd, fun n ob a h1 h2 => (r.ob n ob a h1 h2).ext r (Ext.fresh hp) (by
    obtain ⟨u, e⟩ := (r.ob n ob a h1 h2).live
    rw [upd_ne (ne_of_none e hp)])⟩
theorem nodup_get {ρ : List Addr} (h : ρ.Nodup) {i j : Nat} {a : Addr} (h1 : ρ[i]? = some a) (h2 : ρ[j]? = some a) : i = j := by
  obtain ⟨l1, e1⟩ := List.getElem?_eq_some_iff.mp h1
  obtain ⟨l2, e2⟩ := List.getElem?_eq_some_iff.mp h2
  exact (List.getElem_inj h).mp (e1.trans e2.symm)
theorem RS.new (r : RS K cl ρ H S) {p : Addr} {o : HO} {ob : Ob} (hp : H p = none) (h : RO K cl (ρ ++ [p]) (upd H p o) ob p) : RS K cl (ρ ++ [p]) (upd H p o) (S ++ [ob]) := by
  have hn := r.notin hp
  refine ⟨by simp [r.len], ?_, fun n o2 a h1 h2 => ?_⟩
  · rw [List.nodup_append]
    refine ⟨r.nd, by simp, fun x hx y hy => ?_⟩
    have : y = p := by simpa using hy
    subst this
    exact fun z => hn (z ▸ hx)
  · by_cases hl : n < S.length
    · rw [List.getElem?_append_left hl] at h1
      rw [List.getElem?_append_left (by rw [r.len]; exact hl)] at h2
      have ro := r.ob n o2 a h1 h2
      refine ro.ext r (Ext.new hp) ?_
      obtain ⟨u, e⟩ := ro.live
      rw [upd_ne (ne_of_none e hp)]
    · have hl2 : S.length ≤ n := by omega
      rw [List.getElem?_append_right hl2] at h1
      rw [List.getElem?_append_right (by rw [r.len]; exact hl2), r.len] at h2
      have : n - S.length = 0 := by
        cases q : n - S.length with
        | zero => rfl
        | succ k => rw [q] at h1; simp at h1
      rw [this] at h1 h2
      simp at h1 h2
      subst h1 h2
      exact h
theorem RS.put (r : RS K cl ρ H S) {n : Nat} {p : Addr} {o : HO} {ob : Ob} (hp : ρ[n]? = some p) (h : RO K cl ρ (upd H p o) ob p) : RS K cl ρ (upd H p o) (S.set n ob) := by
  have hm : p ∈ ρ := List.mem_of_getElem? hp
  refine ⟨by simp [r.len], r.nd, fun m o2 a h1 h2 => ?_⟩
  by_cases hmn : n = m
  · subst hmn
    rw [hp] at h2; cases h2
    have hl : n < S.length := by rw [← r.len]; exact (List.getElem?_eq_some_iff.mp hp).1
    rw [List.getElem?_set_self hl] at h1
    cases h1
    exact h
  · rw [List.getElem?_set_ne hmn] at h1
    have ro := r.ob m o2 a h1 h2
    refine ro.ext r (Ext.put hm) ?_
    rw [upd_ne (by rintro rfl; exact hmn (nodup_get r.nd hp h2))]
theorem RS.at (r : RS K cl ρ H S) {n : Nat} {o : Ob} (h : S[n]? = some o) : ∃ a, ρ[n]? = some a ∧ RO K cl ρ H o a := by
  have hl : n < ρ.length := by rw [r.len]; exact (List.getElem?_eq_some_iff.mp h).1
  exact ⟨_, List.getElem?_eq_getElem hl, r.ob n o _ h (List.getElem?_eq_getElem hl)⟩

/-! ### slots -/
def Rσ (K : PySem.W.Frag) (ρ : List Addr) (H : Hp) (env : Evn) (σ : L2.St) : Prop :=
  env.length = σ.length ∧ ∀ (i : Nat) u, env[i]? = some (some u) → ∃ v, σ[i]? = some (some v) ∧ RU K ρ H u v
theorem Rσ.ext {env : Evn} {σ : L2.St} (r : RS K cl ρ H S) (e : Ext ρ H ρ' H') (h : Rσ K ρ H env σ) : Rσ K ρ' H' env σ :=
  ⟨h.1, fun i u q => let ⟨v, h1, h2⟩ := h.2 i u q; ⟨v, h1, RU.ext r e _ _ h2⟩⟩
theorem Rσ.set {env : Evn} {σ : L2.St} {u : U} {v : V} (h : Rσ K ρ H env σ) (r : RU K ρ H u v) (i : Nat) : Rσ K ρ H (env.set i (some u)) (σ.set i (some v)) := by
  refine ⟨by simpa using h.1, fun j w e => ?_⟩
  by_cases hj : i = j
  · subst hj
    have hi : i < env.length := by have := (List.getElem?_eq_some_iff.mp e).1; simpa using this
    rw [List.getElem?_set_self hi] at e
    cases e
    exact ⟨v, List.getElem?_set_self (by rw [← h.1]; exact hi), r⟩
  · rw [List.getElem?_set_ne hj] at e ⊢
    exact h.2 j w e
def wipeU (env : Evn) : List Nat → Evn
  | [] => env
  | v :: vs => (wipeU env vs).set v none
theorem Rσ.wipe {env : Evn} {σ : L2.St} (h : Rσ K ρ H env σ) : ∀ vs : List Nat, Rσ K ρ H (wipeU env vs) (wipe σ vs)
  | [] => h
  | v :: vs => by
    have ih := Rσ.wipe h vs
    refine ⟨by simpa [wipeU, L2.wipe] using ih.1, fun j w e => ?_⟩
    simp only [wipeU, L2.wipe] at e ⊢
    by_cases hj : v = j
    · subst hj
      have hi : v < (wipeU env vs).length := by have := (List.getElem?_eq_some_iff.mp e).1; simpa using this
      rw [List.getElem?_set_self hi] at e; cases e
    · rw [List.getElem?_set_ne hj] at e ⊢
      exact ih.2 j w e
end

/-! ### what is wanted behind a run -/
/-- the context: what the written part is, where classes stand, what is wanted of an exception -/
structure Cn where
  K : PySem.W.Frag
  cl : Nat → Addr
  Ex : Nat → U → List Addr → Hp → L2.St → Prop
section
variable {C : Cn} {α β : Type} {ρ ρ' : List Addr} {H H' : Hp} {σ : L2.St} {S S' : Sto}
abbrev Cn.Z (C : Cn) (ρ : List Addr) (H : Hp) (S : Sto) : Prop := RS C.K C.cl ρ H S
abbrev Cn.U (C : Cn) (ρ : List Addr) (H : Hp) (u : U) (v : V) : Prop := RU C.K ρ H u v
def Post (C : Cn) (r : R α) (ρ : List Addr) (H : Hp) (σ : L2.St) (k : α → Sto → List Addr → Hp → Prop) : Prop := match r with
  | .ok u S' => ∀ ρ' H', Ext ρ H ρ' H' → C.Z ρ' H' S' → k u S' ρ' H'
  | .exc c u S' => ∀ ρ' H', Ext ρ H ρ' H' → C.Z ρ' H' S' → C.Ex c u ρ' H' σ
  | .stuck => False
theorem Post.mono {r : R α} {k k' : α → Sto → List Addr → Hp → Prop} (h : Post C r ρ H σ k) (g : ∀ u S' ρ' H', Ext ρ H ρ' H' → C.Z ρ' H' S' → k u S' ρ' H' → k' u S' ρ' H') : Post C r ρ H σ k' := by
  cases r with
  | ok u S' => exact fun ρ' H' e s => g _ _ _ _ e s (h ρ' H' e s)
  | exc c u S' => exact h
  | stuck => exact h
theorem Post.bind {r : R α} {f : α → Sto → R β} {k : β → Sto → List Addr → Hp → Prop} (h : Post C (r.bind f) ρ H σ k) : Post C r ρ H σ fun u S1 ρ1 H1 => Post C (f u S1) ρ1 H1 σ k := by
  cases r with
  | ok u S1 =>
    intro ρ1 H1 e s
    have h' : Post C (f u S1) ρ H σ k := h
    cases q : f u S1 with
    | ok w S2 => rw [q] at h'; exact fun ρ2 H2 e2 s2 => h' ρ2 H2 (e.trans e2) s2
    | exc c w S2 => rw [q] at h'; exact fun ρ2 H2 e2 s2 => h' ρ2 H2 (e.trans e2) s2
    | stuck => rw [q] at h'; exact h'
  | exc c u S1 => exact h
  | stuck => exact h
theorem Post.ok {u : α} {S : Sto} {k : α → Sto → List Addr → Hp → Prop} (h : Post C (.ok u S) ρ H σ k) (e : Ext ρ H ρ' H') (s : C.Z ρ' H' S) : k u S ρ' H' := h ρ' H' e s
theorem Post.here {u : α} {S : Sto} {k : α → Sto → List Addr → Hp → Prop} (h : Post C (.ok u S) ρ H σ k) (s : C.Z ρ H S) : k u S ρ H := h ρ H Ext.refl s

/-! ### the readings -/
/-- an expression that runs as d -/
def TD (C : Cn) (d : Den U) : TE := fun σ H Q => ∃ ρ env S, Rσ C.K ρ H env σ ∧ C.Z ρ H S ∧ Post C (d env S) ρ H σ fun u _ ρ' H' => ∀ v, C.U ρ' H' u v → Q v H'
def TDs (C : Cn) (d : Den (List U)) : TA := fun σ H Q => ∃ ρ env S, Rσ C.K ρ H env σ ∧ C.Z ρ H S ∧ Post C (d env S) ρ H σ fun us _ ρ' H' => ∀ vs, RUs C.K ρ' H' us vs → Q vs H'
def TDb (C : Cn) (d : Den Bool) : TT := fun σ H Q => ∃ ρ env S, Rσ C.K ρ H env σ ∧ C.Z ρ H S ∧ Post C (d env S) ρ H σ fun b _ _ H' => Q b H'
end
end Bq

set_option linter.all false
set_option maxRecDepth 100000
set_option maxHeartbeats 4000000
namespace Bq
open PySem
open PySem.Spec
open PyProof.Rows
open L2

/-! ### operations on own values: what comes, and the store behind; none: not told here -/
def LIM : Nat := 16777216
/-- a small number (by natAbs: the kernel sees quickly that it cannot tell) -/
def Sm (b : Nat) (i : Int) : Prop := i.natAbs < b
instance {b : Nat} {i : Int} : Decidable (Sm b i) := inferInstanceAs (Decidable (i.natAbs < b))
theorem Sm.lt {b : Nat} {i : Int} (h : Sm b i) : -(b : Int) < i ∧ i < b := by unfold Sm at h; omega
theorem Sm.of {b : Nat} {i : Int} (h : -(b : Int) < i ∧ i < b) : Sm b i := by unfold Sm; omega
theorem LIM_eq : LIM = sizeLine := by rw [sizeLine_eq]; rfl
abbrev Op2 := U → U → Sto → Option (U × Sto)
abbrev OpN := List U → Sto → Option (U × Sto)
def ofO {α : Type} : Option (α × Sto) → R α
  | some (a, S) => .ok a S
  | none => .stuck
def dBin (f : Op2) (da db : Den U) : Den U := fun env S => (da env S).bind fun u S1 => (db env S1).bind fun w S2 => ofO (f u w S2)
def dUn (f : U → Sto → Option (U × Sto)) (da : Den U) : Den U := fun env S => (da env S).bind fun u S1 => ofO (f u S1)

section
variable (C : Cn)
/-- an operation's relation by own values -/
def rOwn (f : Op2) : R2 := fun x y H Q => ∃ (ρ : List Addr) (S : Sto) (a b z : U) (S' : Sto), f a b S = some (z, S') ∧ C.Z ρ H S ∧ C.U ρ H a x ∧ C.U ρ H b y ∧ ∀ ρ' H' v, Ext ρ H ρ' H' → C.Z ρ' H' S' → C.U ρ' H' z v → Q v H'
def rOwn1 (f : U → Sto → Option (U × Sto)) : V → Hp → VK → Prop := fun x H Q => ∃ (ρ : List Addr) (S : Sto) (a z : U) (S' : Sto), f a S = some (z, S') ∧ C.Z ρ H S ∧ C.U ρ H a x ∧ ∀ ρ' H' v, Ext ρ H ρ' H' → C.Z ρ' H' S' → C.U ρ' H' z v → Q v H'
def rOwnN (f : OpN) : List V → Hp → VK → Prop := fun xs H Q => ∃ (ρ : List Addr) (S : Sto) (as : List U) (z : U) (S' : Sto), f as S = some (z, S') ∧ C.Z ρ H S ∧ RUs C.K ρ H as xs ∧ ∀ ρ' H' v, Ext ρ H ρ' H' → C.Z ρ' H' S' → C.U ρ' H' z v → Q v H'
end
section
variable {X : Cx} {C : Cn} {a b : Expr} {da db : Den U} {f : Op2} {pos : Pos}
theorem _root_.L2.PE.imp {e : Expr} {t t' : TE} (h : PE X e t) (g : ∀ σ H Q, t' σ H Q → t σ H Q) : PE X e t' := ⟨fun pins s σ H Q I q => h.run pins s σ H Q I (g _ _ _ q)⟩
theorem _root_.L2.PT.imp {e : Expr} {t t' : TT} (h : PT X e t) (g : ∀ σ H Q, t' σ H Q → t σ H Q) : PT X e t' := ⟨fun pins s σ H Q I q => h.run pins s σ H Q I (g _ _ _ q)⟩
theorem _root_.L2.PA.imp {e : List Expr} {t t' : TA} (h : PA X e t) (g : ∀ σ H Q, t' σ H Q → t σ H Q) : PA X e t' := ⟨fun pos pins s σ H Q I q => h.run pos pins s σ H Q I (g _ _ _ q)⟩
/-- the run of a part: its reading, with what is known behind it -/
theorem TD.of {d : Den U} {ρ : List Addr} {env : Evn} {S : Sto} {σ : L2.St} {H : Hp} {Q : VK} (h1 : Rσ C.K ρ H env σ) (h2 : C.Z ρ H S)
    (h : Post C (d env S) ρ H σ fun u S' ρ' H' => Ext ρ H ρ' H' → C.Z ρ' H' S' → ∀ v, C.U ρ' H' u v → Q v H') : TD C d σ H Q :=
  ⟨ρ, env, S, h1, h2, Post.mono h fun u S' ρ' H' e s k => k e s⟩
theorem tOp_own {da db : Den U} {σ : L2.St} {H : Hp} {Q : VK} (h : TD C (dBin f da db) σ H Q) : tOp (rOwn C f) (TD C da) (TD C db) σ H Q := by
  obtain ⟨ρ, env, S, h1, h2, hp⟩ := h
  refine TD.of h1 h2 (Post.mono (Post.bind hp) fun u S1 ρ1 H1 e1 s1 k1 _ _ x hx => ?_)
  refine TD.of (h1.ext h2 e1) s1 (Post.mono (Post.bind k1) fun w S2 ρ2 H2 e2 s2 k2 _ _ y hy => ?_)
  cases q : f u w S2 with
  | none => rw [q] at k2; exact k2.elim
  | some r =>
    obtain ⟨z, S'⟩ := r
    rw [q] at k2
    exact ⟨ρ2, S2, u, w, z, S', q, s2, RU.ext s1 e2 _ _ hx, hy, fun ρ' H' v e s r => k2 ρ' H' e s v r⟩
theorem tUn_own {f : U → Sto → Option (U × Sto)} {da : Den U} {σ : L2.St} {H : Hp} {Q : VK} (h : TD C (dUn f da) σ H Q) : tUn (rOwn1 C f) (TD C da) σ H Q := by
  obtain ⟨ρ, env, S, h1, h2, hp⟩ := h
  refine TD.of h1 h2 (Post.mono (Post.bind hp) fun u S1 ρ1 H1 e1 s1 k2 _ _ x hx => ?_)
  cases q : f u S1 with
  | none => rw [q] at k2; exact k2.elim
  | some r =>
    obtain ⟨z, S'⟩ := r
    rw [q] at k2
    exact ⟨ρ1, S1, u, z, S', q, s1, hx, fun ρ' H' v e s r => k2 ρ' H' e s v r⟩
theorem de_op {op : Operator} (ho : OpR X (binaryOp op) (rOwn C f)) (ha : PE X a (TD C da)) (hb : PE X b (TD C db)) : PE X (.BinOp a op b pos) (TD C (dBin f da db)) :=
  (pe_op ho ha hb).imp fun _ _ _ h => tOp_own h
theorem de_un {op : UnaryOp} {f : U → Sto → Option (U × Sto)} (ho : UnR X (unaryOp op) (rOwn1 C f)) (ha : PE X a (TD C da)) : PE X (.UnaryOp op a pos) (TD C (dUn f da)) :=
  (pe_un ho ha).imp fun _ _ _ h => tUn_own h
theorem de_cmp {op : CmpOp} (ho : OpR X (compareOp op) (rOwn C f)) (ha : PE X a (TD C da)) (hb : PE X b (TD C db)) (hm : behindInMarks op b = false) : PE X (.Compare a [op] [b] pos) (TD C (dBin f da db)) :=
  (pe_cmpR ho ha hb hm).imp fun _ _ _ h => tOp_own h
theorem de_ix (hr : IxR X (rOwn C f)) (ha : PE X a (TD C da)) (hb : PE X b (TD C db)) (hs : PlainIx b) : PE X (.Subscript a b pos) (TD C (dBin f da db)) :=
  (pe_ix hr ha hb hs).imp fun _ _ _ h => tOp_own h

/-! ### constants, names -/
theorem de_var {i : Nat} {x : Str} (hN : X.N[i]? = some x) (hv : Vis X.env.scope x) (hd : (x == ("__debug__" : Str)) = false) (hcd : (x == ("__classdict__" : Str)) = false) : PE X (.Name x pos) (TD C fun env S => match env[i]? with | some (some u) => .ok u S | _ => .stuck) := by
  refine (pe_var (i := i) hN hv hd hcd).imp fun σ H Q h => ?_
  obtain ⟨ρ, env, S, h1, h2, hp⟩ := h
  cases q : env[i]? with
  | none => simp only [q] at hp; exact hp.elim
  | some r =>
    cases r with
    | none => simp only [q] at hp; exact hp.elim
    | some u =>
      simp only [q] at hp
      obtain ⟨v, e, r⟩ := h1.2 i u q
      exact ⟨v, e, hp.here h2 v r⟩
/-- a constant -/
theorem de_c {e : Expr} {u : U} {v : V} (h : PE X e (tC v)) (r : ∀ ρ H, RU C.K ρ H u v) : PE X e (TD C fun _ S => .ok u S) := by
  refine h.imp fun σ H Q h => ?_
  obtain ⟨ρ, env, S, h1, h2, hp⟩ := h
  exact hp.here h2 v (r ρ H)
theorem de_int {i j} : PE X (.Constant (.int i) j pos) (TD C fun _ S => .ok (.int i) S) := de_c pe_int fun _ _ => rfl
theorem de_bl {i j} : PE X (.Constant (.bool i) j pos) (TD C fun _ S => .ok (.bl i) S) := de_c pe_bl fun _ _ => rfl
theorem de_non {j} : PE X (.Constant .none j pos) (TD C fun _ S => .ok .non S) := de_c pe_non fun _ _ => rfl
theorem de_str {s : List Nat} {x : Str} {j} (h : mkS s = x) : PE X (.Constant (.str x) j pos) (TD C fun _ S => .ok (.str s) S) := by subst h; exact de_c pe_str fun _ _ => rfl

/-! ### tuples, lists: the parts, then a new thing -/
def dNil : Den (List U) := fun _ S => .ok [] S
def dCons (d : Den U) (ds : Den (List U)) : Den (List U) := fun env S => (d env S).bind fun u S1 => (ds env S1).bind fun us S2 => .ok (u :: us) S2
theorem des_nil : PA X [] (TDs C dNil) := pa_nil.imp fun σ H Q h => by
  obtain ⟨ρ, env, S, h1, h2, hp⟩ := h
  exact hp.here h2 [] rfl
theorem TDs.of {d : Den (List U)} {ρ : List Addr} {env : Evn} {S : Sto} {σ : L2.St} {H : Hp} {Q : List V → Hp → Prop} (h1 : Rσ C.K ρ H env σ) (h2 : C.Z ρ H S)
    (h : Post C (d env S) ρ H σ fun u S' ρ' H' => Ext ρ H ρ' H' → C.Z ρ' H' S' → ∀ v, RUs C.K ρ' H' u v → Q v H') : TDs C d σ H Q :=
  ⟨ρ, env, S, h1, h2, Post.mono h fun u S' ρ' H' e s k => k e s⟩
theorem des_cons {e : Expr} {es : List Expr} {d : Den U} {ds : Den (List U)} (h : PE X e (TD C d)) (hr : PA X es (TDs C ds)) (hs : starEach (e :: es) X.env = (false, eval e X.env) :: starEach es X.env) : PA X (e :: es) (TDs C (dCons d ds)) :=
  (pa_cons h hr hs).imp fun σ H Q h => by
    obtain ⟨ρ, env, S, h1, h2, hp⟩ := h
    refine TD.of h1 h2 (Post.mono (Post.bind hp) fun u S1 ρ1 H1 e1 s1 k1 _ _ x hx => ?_)
    refine TDs.of (h1.ext h2 e1) s1 (Post.mono (Post.bind k1) fun us S2 ρ2 H2 e2 s2 k2 _ _ xs hxs => ?_)
    exact k2.here s2 (x :: xs) ⟨x, xs, rfl, RU.ext s1 e2 _ _ hx, hxs⟩
def mkTup (us : List U) (S : Sto) : Option (U × Sto) := if us.length ≤ LIM then some (.tup us, S) else none
def mkLst (us : List U) (S : Sto) : Option (U × Sto) := if us.length ≤ LIM then some (.loc S.length, S ++ [.lst us]) else none
def dTup (ds : Den (List U)) : Den U := fun env S => (ds env S).bind fun us S1 => ofO (mkTup us S1)
def dLst (ds : Den (List U)) : Den U := fun env S => (ds env S).bind fun us S1 => ofO (mkLst us S1)
/-- a new tuple at p -/
theorem new_tup {ρ : List Addr} {H : Hp} {S : Sto} {us : List U} {vs : List V} {p : Addr} (s : C.Z ρ H S) (r : RUs C.K ρ H us vs) (hp : H p = none) : Ext ρ H ρ (upd H p (.tup vs)) ∧ C.Z ρ (upd H p (.tup vs)) S ∧ C.U ρ (upd H p (.tup vs)) (.tup us) (.ref p) := by
  have e : Ext ρ H ρ (upd H p (.tup vs)) := Ext.fresh hp
  refine ⟨e, s.fresh hp, p, vs, rfl, SqT.of upd_same, RUs.ext s e _ _ r⟩
theorem new_lst {ρ : List Addr} {H : Hp} {S : Sto} {us : List U} {vs : List V} {p : Addr} (s : C.Z ρ H S) (r : RUs C.K ρ H us vs) (hp : H p = none) : Ext ρ H (ρ ++ [p]) (upd H p (.lst vs)) ∧ C.Z (ρ ++ [p]) (upd H p (.lst vs)) (S ++ [.lst us]) ∧ C.U (ρ ++ [p]) (upd H p (.lst vs)) (.loc S.length) (.ref p) := by
  have e : Ext ρ H (ρ ++ [p]) (upd H p (.lst vs)) := Ext.new hp
  refine ⟨e, s.new hp ⟨vs, upd_same, RUs.ext s e _ _ r⟩, p, ?_, rfl⟩
  rw [List.getElem?_append_right (by rw [s.len]; exact Nat.le_refl _), s.len]
  simp
theorem de_tup {es : List Expr} {k : Nat} {ds : Den (List U)} (h : PA X es (TDs C ds)) : PE X (.Tuple es k pos) (TD C (dTup ds)) :=
  (pe_tup h).imp fun σ H Q h => by
    obtain ⟨ρ, env, S, h1, h2, hp⟩ := h
    refine TDs.of h1 h2 (Post.mono (Post.bind hp) fun us S1 ρ1 H1 e1 s1 k1 _ _ xs hx => ?_)
    unfold mkTup at k1
    split at k1
    · rename_i hl
      refine ⟨by rw [← hx.length, ← LIM_eq]; exact hl, fun p hp => ?_⟩
      obtain ⟨e, z, r⟩ := new_tup s1 hx hp
      exact k1 _ _ e z _ r
    · exact k1.elim
theorem de_lst {es : List Expr} {ds : Den (List U)} (h : PA X es (TDs C ds)) : PE X (.List es pos) (TD C (dLst ds)) :=
  (pe_lst h).imp fun σ H Q h => by
    obtain ⟨ρ, env, S, h1, h2, hp⟩ := h
    refine TDs.of h1 h2 (Post.mono (Post.bind hp) fun us S1 ρ1 H1 e1 s1 k1 _ _ xs hx => ?_)
    unfold mkLst at k1
    split at k1
    · rename_i hl
      refine ⟨by rw [← hx.length, ← LIM_eq]; exact hl, fun p hp => ?_⟩
      obtain ⟨e, z, r⟩ := new_lst s1 hx hp
      exact k1 _ _ e z _ r
    · exact k1.elim

/-! ### tests, and, or, not, if -/
def asB : U → Sto → R Bool
  | .bl b, S => .ok b S
  | _, _ => .stuck
def dB (d : Den U) : Den Bool := fun env S => (d env S).bind asB
def dAnd (d e : Den U) : Den U := fun env S => (dB d env S).bind fun b S1 => if b then e env S1 else .ok (.bl false) S1
def dOr (d e : Den U) : Den U := fun env S => (dB d env S).bind fun b S1 => if b then .ok (.bl true) S1 else e env S1
def dNot (d : Den U) : Den U := fun env S => (dB d env S).bind fun b S1 => .ok (.bl (!b)) S1
def dIf (c a b : Den U) : Den U := fun env S => (dB c env S).bind fun k S1 => if k then a env S1 else b env S1
theorem TDb.of {d : Den Bool} {ρ : List Addr} {env : Evn} {S : Sto} {σ : L2.St} {H : Hp} {Q : Bool → Hp → Prop} (h1 : Rσ C.K ρ H env σ) (h2 : C.Z ρ H S)
    (h : Post C (d env S) ρ H σ fun b S' ρ' H' => Ext ρ H ρ' H' → C.Z ρ' H' S' → Q b H') : TDb C d σ H Q :=
  ⟨ρ, env, S, h1, h2, Post.mono h fun u S' ρ' H' e s k => k e s⟩
/-- a value that is a truth, as a test -/
theorem tB_own {d : Den U} {σ : L2.St} {H : Hp} {Q : Bool → Hp → Prop} (h : TDb C (dB d) σ H Q) : tB (TD C d) σ H Q := by
  obtain ⟨ρ, env, S, h1, h2, hp⟩ := h
  refine TD.of h1 h2 (Post.mono (Post.bind hp) fun u S1 ρ1 H1 e1 s1 k1 _ _ x hx => ?_)
  cases u with
  | bl b => 
    have : x = .bl b := hx
    exact ⟨b, this, k1.here s1⟩
  | _ => exact k1.elim
theorem dt_val {e : Expr} {d : Den U} (h : PE X e (TD C d)) (he : ∀ whole, isTrue e X.env whole = (do let v ← whole; standAt e.pos; holding [v] (truthy v))) : PT X e (TDb C (dB d)) := (pt_val h he).imp fun _ _ _ q => tB_own q
theorem dt_cmp {op : CmpOp} (ho : OpR X (compareOp op) (rOwn C f)) (ha : PE X a (TD C da)) (hb : PE X b (TD C db)) (hm : behindInMarks op b = false) : PT X (.Compare a [op] [b] pos) (TDb C (dB (dBin f da db))) :=
  (pt_cmpR ho ha hb hm).imp fun σ H Q h => by
    obtain ⟨ρ, env, S, h1, h2, hp⟩ := h
    refine tOp_own ⟨ρ, env, S, h1, h2, Post.mono (Post.bind hp) fun u S1 ρ1 H1 e1 s1 k1 x hx => ?_⟩
    cases u with
    | bl b => 
      have : x = .bl b := hx
      exact ⟨b, this, k1.here s1⟩
    | _ => exact k1.elim
theorem bind_assoc' {α β γ : Type} (r : R α) (f : α → Sto → R β) (g : β → Sto → R γ) : (r.bind f).bind g = r.bind fun a S => (f a S).bind g := by cases r <;> rfl
theorem dB_and (d e : Den U) : dB (dAnd d e) = fun env S => (dB d env S).bind fun b S1 => if b then dB e env S1 else .ok false S1 := by
  funext env S; unfold dAnd; simp only [dB, bind_assoc']
  congr; funext u S1; congr; funext b S2; cases b <;> rfl
theorem dB_or (d e : Den U) : dB (dOr d e) = fun env S => (dB d env S).bind fun b S1 => if b then .ok true S1 else dB e env S1 := by
  funext env S; unfold dOr; simp only [dB, bind_assoc']
  congr; funext u S1; congr; funext b S2; cases b <;> rfl
theorem dB_not (d : Den U) : dB (dNot d) = fun env S => (dB d env S).bind fun b S1 => .ok (!b) S1 := by
  funext env S; unfold dNot; simp only [dB, bind_assoc']; rfl
theorem dB_if (c a b : Den U) : dB (dIf c a b) = fun env S => (dB c env S).bind fun k S1 => if k then dB a env S1 else dB b env S1 := by
  funext env S; unfold dIf; simp only [dB, bind_assoc']
  congr; funext u S1; congr; funext k S2; cases k <;> rfl
variable {rest : List Expr}
theorem _root_.L2.PW.imp {e : Expr} {t t' : TT} (h : PW X e t) (g : ∀ σ H Q, t' σ H Q → t σ H Q) : PW X e t' := ⟨fun w pins s σ H Q I q => h.run w pins s σ H Q I (g _ _ _ q)⟩
theorem dw_and (ha : PT X a (TDb C (dB da))) (hb : PW X (.BoolOp .And (b :: rest) pos) (TDb C (dB db))) : PW X (.BoolOp .And (a :: b :: rest) pos) (TDb C (dB (dAnd da db))) :=
  PW.imp (pw_and ha hb) fun σ H Q h => by
    rw [dB_and] at h
    obtain ⟨ρ, env, S, h1, h2, hp⟩ := h
    refine TDb.of h1 h2 (Post.mono (Post.bind hp) fun u S1 ρ1 H1 e1 s1 k1 _ _ => ?_)
    cases u with
    | true => exact ⟨ρ1, env, S1, h1.ext h2 e1, s1, k1⟩
    | false => exact k1.here s1
theorem dw_or (ha : PT X a (TDb C (dB da))) (hb : PW X (.BoolOp .Or (b :: rest) pos) (TDb C (dB db))) : PW X (.BoolOp .Or (a :: b :: rest) pos) (TDb C (dB (dOr da db))) :=
  PW.imp (pw_or ha hb) fun σ H Q h => by
    rw [dB_or] at h
    obtain ⟨ρ, env, S, h1, h2, hp⟩ := h
    refine TDb.of h1 h2 (Post.mono (Post.bind hp) fun u S1 ρ1 H1 e1 s1 k1 _ _ => ?_)
    cases u with
    | false => exact ⟨ρ1, env, S1, h1.ext h2 e1, s1, k1⟩
    | true => exact k1.here s1
theorem dt_not (ha : PT X a (TDb C (dB da))) : PT X (.UnaryOp .Not a pos) (TDb C (dB (dNot da))) :=
  (pt_not ha).imp fun σ H Q h => by
    rw [dB_not] at h
    obtain ⟨ρ, env, S, h1, h2, hp⟩ := h
    refine TDb.of h1 h2 (Post.mono (Post.bind hp) fun u S1 ρ1 H1 e1 s1 k1 _ _ => k1.here s1)
theorem de_and (ha : PE X a (TD C da)) (hb : PE X (.BoolOp .And (b :: rest) pos) (TD C db)) : PE X (.BoolOp .And (a :: b :: rest) pos) (TD C (dAnd da db)) :=
  (pe_and ha hb).imp fun σ H Q h => by
    obtain ⟨ρ, env, S, h1, h2, hp⟩ := h
    unfold dAnd dB at hp
    rw [bind_assoc'] at hp
    refine TD.of h1 h2 (Post.mono (Post.bind hp) fun u S1 ρ1 H1 e1 s1 k1 _ _ x hx => ?_)
    cases u with
    | bl c =>
      have : x = .bl c := hx
      refine ⟨c, this, ?_⟩
      cases c with
      | true => exact ⟨ρ1, env, S1, h1.ext h2 e1, s1, k1⟩
      | false => exact k1.here s1 _ rfl
    | _ => exact k1.elim
theorem de_or (ha : PE X a (TD C da)) (hb : PE X (.BoolOp .Or (b :: rest) pos) (TD C db)) : PE X (.BoolOp .Or (a :: b :: rest) pos) (TD C (dOr da db)) :=
  (pe_or ha hb).imp fun σ H Q h => by
    obtain ⟨ρ, env, S, h1, h2, hp⟩ := h
    unfold dOr dB at hp
    rw [bind_assoc'] at hp
    refine TD.of h1 h2 (Post.mono (Post.bind hp) fun u S1 ρ1 H1 e1 s1 k1 _ _ x hx => ?_)
    cases u with
    | bl c =>
      have : x = .bl c := hx
      refine ⟨c, this, ?_⟩
      cases c with
      | false => exact ⟨ρ1, env, S1, h1.ext h2 e1, s1, k1⟩
      | true => exact k1.here s1 _ rfl
    | _ => exact k1.elim
theorem de_not (ha : PE X a (TD C da)) : PE X (.UnaryOp .Not a pos) (TD C (dNot da)) :=
  (pe_not ha).imp fun σ H Q h => by
    obtain ⟨ρ, env, S, h1, h2, hp⟩ := h
    unfold dNot dB at hp
    rw [bind_assoc'] at hp
    refine TD.of h1 h2 (Post.mono (Post.bind hp) fun u S1 ρ1 H1 e1 s1 k1 _ _ x hx => ?_)
    cases u with
    | bl c =>
      have : x = .bl c := hx
      exact ⟨c, this, k1.here s1 _ rfl⟩
    | _ => exact k1.elim
theorem de_if {c : Expr} {dc : Den U} (hc : PT X c (TDb C (dB dc))) (ha : PE X a (TD C da)) (hb : PE X b (TD C db)) : PE X (.IfExp c a b pos) (TD C (dIf dc da db)) :=
  (pe_ifExp hc ha hb).imp fun σ H Q h => by
    obtain ⟨ρ, env, S, h1, h2, hp⟩ := h
    refine TDb.of h1 h2 (Post.mono (Post.bind hp) fun u S1 ρ1 H1 e1 s1 k1 _ _ => ?_)
    cases u with
    | true => exact ⟨ρ1, env, S1, h1.ext h2 e1, s1, k1⟩
    | false => exact ⟨ρ1, env, S1, h1.ext h2 e1, s1, k1⟩
end
end Bq

set_option linter.all false
set_option maxRecDepth 100000
set_option maxHeartbeats 4000000
namespace Bq
open PySem
open PySem.Spec
open PyProof.Rows
open L2
theorem append_mkS (a b : List Nat) : mkS a ++ mkS b = mkS (a ++ b) := by
  show Str.mk ((mkS a).cps ++ (mkS b).cps) = _
  simp [mkS]
/-! ### + - * // % and the like -/
def addF : Op2 := fun x y S => match x, y with
  | .int i, .int j => some (.int (i + j), S)
  | .str a, .str b => if a.length + b.length ≤ LIM then some (.str (a ++ b), S) else none
  | .tup a, .tup b => if a.length + b.length ≤ LIM then some (.tup (a ++ b), S) else none
  | .loc m, .loc n => match S[m]?, S[n]? with
    | some (.lst a), some (.lst b) => if a.length + b.length ≤ LIM then some (.loc S.length, S ++ [.lst (a ++ b)]) else none
    | _, _ => none
  | _, _ => none
def subF : Op2 := fun x y S => match x, y with
  | .int i, .int j => some (.int (i - j), S)
  | _, _ => none
def BIG : Nat := 18446744073709551616
def mulF : Op2 := fun x y S => match x, y with
  | .int i, .int j => if Sm BIG i ∨ Sm BIG j then some (.int (i * j), S) else none
  | .str a, .int k => if 0 ≤ k ∧ Sm 1000001 k ∧ a.length * k.toNat ≤ LIM then some (.str (List.replicate k.toNat a).flatten, S) else none
  | .tup a, .int k => if 2 ≤ k ∧ k ≤ 1000 ∧ a ≠ [] ∧ a.length ≤ 1000 then some (.tup (List.replicate k.toNat a).flatten, S) else none
  | .loc m, .int k => match S[m]? with
    | some (.lst a) => if 0 ≤ k ∧ Sm 1000001 k ∧ a.length * k.toNat ≤ LIM then some (.loc S.length, S ++ [.lst (List.replicate k.toNat a).flatten]) else none
    | _ => none
  | _, _ => none
def fdivF : Op2 := fun x y S => match x, y with
  | .int i, .int j => if 0 < j ∧ Sm 1073741824 j then some (.int (i / j), S) else none
  | _, _ => none
def modF : Op2 := fun x y S => match x, y with
  | .int i, .int j => if 0 < j then some (.int (i % j), S) else none
  | _, _ => none
def powF : Op2 := fun x y S => match x, y with
  | .int i, .int j => if 0 ≤ j ∧ Sm 1000001 j ∧ i.natAbs < 2 ^ 64 then some (.int (i ^ j.toNat), S) else none
  | _, _ => none
def shlF : Op2 := fun x y S => match x, y with
  | .int i, .int j => if 0 ≤ j ∧ Sm 1000001 j ∧ i.natAbs < 2 ^ 64 then some (.int (i * 2 ^ j.toNat), S) else none
  | _, _ => none
def shrF : Op2 := fun x y S => match x, y with
  | .int i, .int j => if 0 ≤ j then some (.int (i / 2 ^ j.toNat), S) else none
  | _, _ => none
def andF : Op2 := fun x y S => match x, y with
  | .int i, .int j => some (.int (Builtin.bitAnd i j), S)
  | _, _ => none
def orF : Op2 := fun x y S => match x, y with
  | .int i, .int j => some (.int (Builtin.bitOr i j), S)
  | _, _ => none
def xorF : Op2 := fun x y S => match x, y with
  | .int i, .int j => some (.int (Builtin.bitXor i j), S)
  | _, _ => none
def binF : Operator → Op2
  | .Add => addF | .Sub => subF | .Mult => mulF | .FloorDiv => fdivF | .Mod => modF | .Pow => powF | .LShift => shlF | .RShift => shrF | .BitAnd => andF | .BitOr => orF | .BitXor => xorF
  | _ => fun _ _ _ => none
def negF (x : U) (S : Sto) : Option (U × Sto) := match x with | .int i => some (.int (-i), S) | _ => none
def invF (x : U) (S : Sto) : Option (U × Sto) := match x with | .int i => some (.int (Builtin.bitNot i), S) | _ => none

section
variable {X : Cx} {C : Cn}
theorem rU_int {ρ : List Addr} {H : Hp} {i : Int} {x : V} (h : C.U ρ H (.int i) x) : x = .int i := h
theorem rU_str {ρ : List Addr} {H : Hp} {s : List Nat} {x : V} (h : C.U ρ H (.str s) x) : x = .str (mkS s) := h
theorem rU_tup {ρ : List Addr} {H : Hp} {us : List U} {x : V} (h : C.U ρ H (.tup us) x) : ∃ a vs, x = .ref a ∧ SqT C.K H a vs ∧ RUs C.K ρ H us vs := h
theorem rU_lst {ρ : List Addr} {H : Hp} {S : Sto} {m : Nat} {us : List U} {x : V} (s : C.Z ρ H S) (h : C.U ρ H (.loc m) x) (e : S[m]? = some (.lst us)) : ∃ a vs, x = .ref a ∧ ρ[m]? = some a ∧ H a = some (.lst vs) ∧ RUs C.K ρ H us vs := by
  obtain ⟨a, e1, e2⟩ := (h : ∃ a, ρ[m]? = some a ∧ x = .ref a)
  obtain ⟨vs, h1, h2⟩ := s.ob m _ a e e1
  exact ⟨a, vs, e2, e1, h1, h2⟩
/-- a list to be read: ours, or frozen -/
theorem rU_seq {ρ : List Addr} {H : Hp} {S : Sto} {m : Nat} {us : List U} {x : V} (s : C.Z ρ H S) (h : C.U ρ H (.loc m) x) (e : S[m]? = some (.lst us) ∨ S[m]? = some (.frz us)) : ∃ a vs, x = .ref a ∧ ρ[m]? = some a ∧ SqL C.K H a vs ∧ RUs C.K ρ H us vs := by
  obtain ⟨a, e1, e2⟩ := (h : ∃ a, ρ[m]? = some a ∧ x = .ref a)
  rcases e with e | e
  · obtain ⟨vs, h1, h2⟩ := s.ob m _ a e e1
    exact ⟨a, vs, e2, e1, .inl (.inl h1), h2⟩
  · obtain ⟨vs, o, h1, h2⟩ := s.ob m _ a e e1
    exact ⟨a, vs, e2, e1, .inl (.inr ⟨o, h1⟩), h2⟩
theorem rU_cl {ρ : List Addr} {H : Hp} {us : List U} {x : V} (h : C.U ρ H (.cl us) x) : ∃ a vs, x = .ref a ∧ FragL C.K a vs ∧ RUs C.K ρ H us vs := h
theorem rU_bl {ρ : List Addr} {H : Hp} {b : Bool} {x : V} (h : C.U ρ H (.bl b) x) : x = .bl b := h
/-- two ints, nothing changed -/
theorem own_int2 {g : Value → Value → Sem Value} {f : Op2} {P : Int → Int → Prop} {h : Int → Int → V}
    (hf : ∀ a b S z S', f a b S = some (z, S') → ∃ i j, a = .int i ∧ b = .int j ∧ P i j ∧ S' = S ∧ ∀ ρ H, C.U ρ H z (h i j)) (ho : OpR X g (rI P h)) : OpR X g (rOwn C f) := by
  rintro pins s σ H x y v u Q I rx ry ⟨ρ, S, a, b, z, S', q, hz, hx, hy, k⟩
  obtain ⟨i, j, rfl, rfl, hp, rfl, hr⟩ := hf a b S z S' q
  exact ho pins s σ H x y v u Q I rx ry ⟨i, j, hx, hy, hp, k ρ H _ Ext.refl hz (hr ρ H)⟩
theorem rI_of {g : Int → Int → V} {f : Value → Value → Sem Value} (h : OpR X f (rI0 g)) : OpR X f (rI (fun _ _ => True) g) := by
  rintro pins s σ H x y v u Q I rx ry ⟨i, j, e1, e2, _, q⟩
  exact h pins s σ H x y v u Q I rx ry ⟨i, j, e1, e2, q⟩
theorem ob_sub : OpR X (binaryOp .Sub) (rOwn C subF) := by
  refine own_int2 (fun a b S z S' q => ?_) (rI_of op_sub)
  unfold subF at q; split at q <;> cases q
  exact ⟨_, _, rfl, rfl, trivial, rfl, fun _ _ => rfl⟩
theorem ob_fdiv : OpR X (binaryOp .FloorDiv) (rOwn C fdivF) := by
  refine own_int2 (fun a b S z S' q => ?_) op_fdiv
  unfold fdivF at q; split at q
  · split at q
    · rename_i h; cases q
      exact ⟨_, _, rfl, rfl, ⟨h.1, h.2.lt.2⟩, rfl, fun _ _ => rfl⟩
    · cases q
  · cases q
theorem ob_mod : OpR X (binaryOp .Mod) (rOwn C modF) := by
  refine own_int2 (fun a b S z S' q => ?_) op_mod
  unfold modF at q; split at q
  · split at q
    · rename_i h; cases q
      exact ⟨_, _, rfl, rfl, h, rfl, fun _ _ => rfl⟩
    · cases q
  · cases q
theorem ob_pow : OpR X (binaryOp .Pow) (rOwn C powF) := by
  refine own_int2 (fun a b S z S' q => ?_) op_pow
  unfold powF at q; split at q
  · split at q
    · rename_i h; cases q
      exact ⟨_, _, rfl, rfl, ⟨h.1, by have := h.2.1.lt; omega, h.2.2⟩, rfl, fun _ _ => rfl⟩
    · cases q
  · cases q
theorem ob_shl : OpR X (binaryOp .LShift) (rOwn C shlF) := by
  refine own_int2 (fun a b S z S' q => ?_) op_shl
  unfold shlF at q; split at q
  · split at q
    · rename_i h; cases q
      exact ⟨_, _, rfl, rfl, ⟨h.1, by have := h.2.1.lt; omega, h.2.2⟩, rfl, fun _ _ => rfl⟩
    · cases q
  · cases q
theorem ob_shr : OpR X (binaryOp .RShift) (rOwn C shrF) := by
  refine own_int2 (fun a b S z S' q => ?_) op_shr
  unfold shrF at q; split at q
  · split at q
    · rename_i h; cases q
      exact ⟨_, _, rfl, rfl, h, rfl, fun _ _ => rfl⟩
    · cases q
  · cases q
theorem ob_and : OpR X (binaryOp .BitAnd) (rOwn C andF) := by
  refine own_int2 (fun a b S z S' q => ?_) (rI_of op_and)
  unfold andF at q; split at q <;> cases q
  exact ⟨_, _, rfl, rfl, trivial, rfl, fun _ _ => rfl⟩
theorem ob_or : OpR X (binaryOp .BitOr) (rOwn C orF) := by
  refine own_int2 (fun a b S z S' q => ?_) (rI_of op_or)
  unfold orF at q; split at q <;> cases q
  exact ⟨_, _, rfl, rfl, trivial, rfl, fun _ _ => rfl⟩
theorem ob_xor : OpR X (binaryOp .BitXor) (rOwn C xorF) := by
  refine own_int2 (fun a b S z S' q => ?_) (rI_of op_xor)
  unfold xorF at q; split at q <;> cases q
  exact ⟨_, _, rfl, rfl, trivial, rfl, fun _ _ => rfl⟩
theorem ob_add (hK : X.K = C.K) : OpR X (binaryOp .Add) (rOwn C addF) := by
  rintro pins s σ H x y v u Q I rx ry ⟨ρ, S, a, b, z, S', q, hz, hx, hy, k⟩
  unfold addF at q
  split at q
  · cases q
    exact op_add pins s σ H x y v u Q I rx ry ⟨_, _, hx, hy, k ρ H _ Ext.refl hz rfl⟩
  · split at q
    · rename_i hl; cases q
      refine op_add_str pins s σ H x y v u Q I rx ry ⟨_, _, hx, hy, ?_, ?_⟩
      · rw [mkS_len, mkS_len, ← LIM_eq]; exact hl
      · rw [append_mkS]; exact k ρ H _ Ext.refl hz rfl
    · cases q
  · split at q
    · rename_i us ws hl; cases q
      obtain ⟨p, vs, rfl, t1, r1⟩ := rU_tup hx
      obtain ⟨p2, vs2, rfl, t2, r2⟩ := rU_tup hy
      have r3 := r1.append r2
      have e1 : vs = [] ↔ us = [] := by rw [← List.length_eq_zero_iff, ← List.length_eq_zero_iff, r1.length]
      have e2 : vs2 = [] ↔ ws = [] := by rw [← List.length_eq_zero_iff, ← List.length_eq_zero_iff, r2.length]
      refine op_catA pins s σ H _ _ v u Q I rx ry ⟨p, p2, vs, vs2, rfl, rfl, hK ▸ t1, hK ▸ t2, by rw [← r1.length, ← r2.length, ← LIM_eq]; exact hl, fun h => ?_, fun h h' => ?_, fun h h' p3 hp3 => ?_⟩
      · have := e1.mp h; subst this
        exact k ρ H _ Ext.refl hz ⟨p2, vs2, rfl, t2, r2⟩
      · have := e2.mp h'; subst this
        rw [List.append_nil] at k
        exact k ρ H _ Ext.refl hz ⟨p, vs, rfl, t1, r1⟩
      · obtain ⟨e, zz, r⟩ := new_tup hz r3 hp3
        exact k _ _ _ e zz r
    · cases q
  · split at q
    · rename_i e1 e2
      split at q
      · rename_i hl; cases q
        obtain ⟨p, vs, rfl, _, t1, r1⟩ := rU_lst hz hx e1
        obtain ⟨p2, vs2, rfl, _, t2, r2⟩ := rU_lst hz hy e2
        refine op_cat pins s σ H _ _ v u Q I rx ry ⟨p, p2, vs, vs2, rfl, rfl, t1, t2, by rw [← r1.length, ← r2.length, ← LIM_eq]; exact hl, fun p3 hp3 => ?_⟩
        obtain ⟨e, zz, r⟩ := new_lst hz (r1.append r2) hp3
        exact k _ _ _ e zz r
      · cases q
    · cases q
  · cases q
theorem RUs.rep {ρ : List Addr} {H : Hp} {K : PySem.W.Frag} {us : List U} {vs : List V} (h : RUs K ρ H us vs) : ∀ k : Nat, RUs K ρ H (List.replicate k us).flatten (List.replicate k vs).flatten
  | 0 => rfl
  | k + 1 => by
    simp only [List.replicate_succ, List.flatten_cons]
    exact h.append (RUs.rep h k)
theorem flat_foldl (x : Array Nat) : ∀ (k : Nat) (acc : Array Nat), (List.replicate k x).foldl (· ++ ·) acc = (acc.toList ++ (List.replicate k x.toList).flatten).toArray
  | 0, acc => by simp
  | k + 1, acc => by
    simp only [List.replicate_succ, List.foldl_cons, List.flatten_cons]
    rw [flat_foldl x k]
    simp
theorem ob_mul (hK : X.K = C.K) : OpR X (binaryOp .Mult) (rOwn C mulF) := by
  rintro pins s σ H x y v u Q I rx ry ⟨ρ, S, a, b, z, S', q, hz, hx, hy, k⟩
  unfold mulF at q
  split at q
  · split at q
    · rename_i h; cases q
      exact op_mul pins s σ H x y v u Q I rx ry ⟨_, _, hx, hy, h.imp Sm.lt Sm.lt, k ρ H _ Ext.refl hz rfl⟩
    · cases q
  · split at q
    · rename_i a n h
      cases q
      obtain ⟨h0, h1, h2⟩ := h
      have h1 := h1.lt
      have hx' := rU_str hx
      have hy' := rU_int hy
      subst hx' hy'
      obtain ⟨t, rfl⟩ := rx
      obtain ⟨t', rfl⟩ := ry
      have hS : ∀ w : Value, (∃ tk, w = .str (mkS (List.replicate n.toNat a).flatten) tk) → ∀ tk, EP X pins σ Q w { s with toks := tk } := fun w hw tk => ⟨.str (mkS (List.replicate n.toNat a).flatten), H, I.tok tk, hw, k ρ H _ Ext.refl hz rfl⟩
      have c3 : (n == 1 || (mkS a).length == 0) = false → ¬ n < 1 → a ≠ [] := fun h _ hn => by subst hn; simp [mkS_len] at h
      refine PySem.P.mul_str (by rw [decide_eq_false (by omega), decide_eq_false (by omega)]; rfl) (fun _ _ => ?_) (fun _ _ => ?_) ?_
      · have e1 : ((mkS a).length : Int) ≤ 16777216 := by
          rw [mkS_len]
          have : a.length * 1 ≤ a.length * n.toNat := Nat.mul_le_mul_left _ (by omega)
          have : LIM = 16777216 := rfl
          omega
        have e2 : (2 ^ 63 - 1 : Int) / n ≥ (2 ^ 63 - 1) / 1000000 := by
          apply Int.le_ediv_of_mul_le (by omega)
          have : (2 ^ 63 - 1 : Int) / 1000000 * n ≤ (2 ^ 63 - 1) / 1000000 * 1000000 := Int.mul_le_mul_of_nonneg_left (by omega) (by decide)
          have e3 : (2 ^ 63 - 1 : Int) / 1000000 * 1000000 ≤ 2 ^ 63 - 1 := by decide
          omega
        have e3 : (2 ^ 63 - 1 : Int) / 1000000 ≥ 16777216 := by decide
        omega
      · show decide (_ > _) = false
        refine decide_eq_false ?_
        rw [mkS_len]
        have : LIM = sizeLine := LIM_eq
        omega
      · split
        · have : n = 0 := by omega
          subst this
          refine ⟨by decide, hS _ ⟨_, rfl⟩ _⟩
        · split
          · rename_i h1 h3
            have : (List.replicate n.toNat a).flatten = a := by
              rcases Bool.or_eq_true_iff.mp h3 with h3 | h3
              · have : n = 1 := by simpa using h3
                subst this; simp
              · have : a = [] := by rw [mkS_len] at h3; simpa using h3
                subst this; simp
            have e := hS (.str (mkS a) t) ⟨t, by rw [this]⟩ s.toks
            exact e
          · have e2 : (⟨(List.replicate n.toNat (mkS a).cps).foldl (· ++ ·) #[]⟩ : Str) = mkS (List.replicate n.toNat a).flatten := by
              rw [flat_foldl]; simp [mkS]
            rw [e2]
            refine ⟨?_, hS _ ⟨_, rfl⟩ _⟩
            rw [mkS_len, PyProof.Rows.lm_len_rep_flat]
            have : LIM = sizeLine := LIM_eq
            rw [Nat.mul_comm]
            omega
    · cases q
  · split at q
    · rename_i a n h
      cases q
      obtain ⟨h0, h1, h2, h3⟩ := h
      obtain ⟨p, vs, rfl, t1, r1⟩ := rU_tup hx
      have hl := r1.length
      refine op_repT pins s σ H _ y v u Q I rx ry ⟨p, _, vs, rfl, hy, hK ▸ t1, fun e => h2 (by subst e; simpa using hl), h0, h1, by omega, fun p3 hp3 => ?_⟩
      obtain ⟨e, zz, r⟩ := new_tup hz (r1.rep _) hp3
      exact k _ _ _ e zz r
    · cases q
  · split at q
    · rename_i a e1
      split at q
      · rename_i n _ h
        cases q
        obtain ⟨h0, h1, h2⟩ := h
        have h1 := h1.lt
        obtain ⟨p, vs, rfl, _, t1, r1⟩ := rU_lst hz hx e1
        have hl := r1.length
        refine op_rep pins s σ H _ y v u Q I rx ry ⟨p, _, vs, rfl, hy, t1, by omega, by omega, by rw [← hl, ← LIM_eq]; exact h2, fun p3 hp3 => ?_⟩
        obtain ⟨e, zz, r⟩ := new_lst hz (r1.rep _) hp3
        exact k _ _ _ e zz r
      · cases q
    · cases q
  · cases q
theorem ob_bin (hK : X.K = C.K) (op : Operator) : OpR X (binaryOp op) (rOwn C (binF op)) := by
  cases op <;> first
    | exact ob_add hK | exact ob_sub | exact ob_mul hK | exact ob_fdiv | exact ob_mod | exact ob_pow | exact ob_shl | exact ob_shr | exact ob_and | exact ob_or | exact ob_xor
    | (rintro pins s σ H x y v u Q I rx ry ⟨ρ, S, a, b, z, S', q, _⟩; cases q)
theorem ob_neg : UnR X (unaryOp .USub) (rOwn1 C negF) := by
  rintro pins s σ H x v Q I rx ⟨ρ, S, a, z, S', q, hz, hx, k⟩
  unfold negF at q
  split at q <;> cases q
  exact un_neg pins s σ H x v Q I rx ⟨_, hx, k ρ H _ Ext.refl hz rfl⟩
theorem ob_inv : UnR X (unaryOp .Invert) (rOwn1 C invF) := by
  rintro pins s σ H x v Q I rx ⟨ρ, S, a, z, S', q, hz, hx, k⟩
  unfold invF at q
  split at q <;> cases q
  exact un_inv pins s σ H x v Q I rx ⟨_, hx, k ρ H _ Ext.refl hz rfl⟩
end
end Bq

set_option linter.all false
set_option maxRecDepth 100000
set_option maxHeartbeats 4000000
namespace Bq
open PySem
open PySem.Spec
open PyProof.Rows
open L2
/-! ### == != < <= > >= in -/
def mapO {α β : Type} (f : α → Option β) : List α → Option (List β)
  | [] => some []
  | x :: xs => match f x, mapO f xs with
    | some y, some ys => some (y :: ys)
    | _, _ => none
def seqAt (S : Sto) (n : Nat) : Option (List U) := match S[n]? with
  | some (.lst us) => some us
  | some (.frz us) => some us
  | _ => none
def toD (S : Sto) : Nat → U → Option PyData
  | 0, .non => some .none
  | 0, .bl b => some (.bool b)
  | 0, .int i => some (.int i)
  | 0, .str s => some (.str (mkS s))
  | 0, _ => none
  | _ + 1, .non => some .none
  | _ + 1, .bl b => some (.bool b)
  | _ + 1, .int i => some (.int i)
  | _ + 1, .str s => some (.str (mkS s))
  | n + 1, .tup us => (mapO (toD S n) us).map .tuple
  | n + 1, .loc l => match seqAt S l with
    | some us => (mapO (toD S n) us).map .list
    | none => none
  | _ + 1, .ty _ => none
  | _ + 1, .cl _ => none
def scalS : U → U → Option Bool
  | .non, .non => some true | .non, .int _ => some false | .int _, .non => some false | .non, .bl _ => some false | .bl _, .non => some false | .non, .str _ => some false | .str _, .non => some false
  | .int i, .int j => some (decide (i = j)) | .bl i, .bl j => some (decide (i = j)) | .str a, .str b => some (decide (a = b))
  | .int _, .str _ => some false | .str _, .int _ => some false | .bl _, .str _ => some false | .str _, .bl _ => some false
  | _, _ => none
def eqB (S : Sto) (x y : U) : Option Bool := match scalS x y with
  | some b => some b
  | none => match toD S 40 x, toD S 40 y with
    | some d, some e => if SeqAt.shaped d = true ∧ SeqAt.shaped e = true then some (PyData.eqv d e) else none
    | _, _ => none
def asI : U → Option Int
  | .int i => some i
  | _ => none
def ltB (x y : U) : Option Bool := match x, y with
  | .int i, .int j => some (decide (i < j))
  | .str a, .str b => some (decide (a < b))
  | .tup a, .tup b => match mapO asI a, mapO asI b with
    | some ns, some ms => some (HT.lexLt ns ms)
    | _, _ => none
  | _, _ => none
def leB (x y : U) : Option Bool := match x, y with
  | .int i, .int j => some (decide (i ≤ j))
  | .str a, .str b => some (!decide (b < a))
  | _, _ => none
def gtB (x y : U) : Option Bool := match x, y with
  | .int i, .int j => some (decide (j < i))
  | .str a, .str b => some (decide (b < a))
  | _, _ => none
def geB (x y : U) : Option Bool := match x, y with
  | .int i, .int j => some (decide (j ≤ i))
  | .str a, .str b => some (!decide (a < b))
  | _, _ => none
def flatU : U → Bool
  | .non => true | .bl _ => true | .int _ => true | .str _ => true
  | _ => false
def eqFl : U → U → Bool
  | .non, .non => true
  | .bl a, .bl b => a == b
  | .bl a, .int b => (if a then 1 else 0) == b
  | .int a, .bl b => a == (if b then 1 else 0)
  | .int a, .int b => a == b
  | .str a, .str b => a == b
  | _, _ => false
def inB (S : Sto) (x y : U) : Option Bool := match y with
  | .str z => match x with
    | .str [c] => some (decide (c ∈ z))
    | .str a => some (!(Builtin.Str.occurrences (mkS z) (mkS a) 0 (mkS z).length 1).isEmpty)
    | _ => none
  | .tup us => if flatU x = true ∧ us.all flatU = true then some (us.any fun y => eqFl y x) else none
  | .loc n => match seqAt S n with
    | some us => if flatU x = true ∧ us.all flatU = true then some (us.any fun y => eqFl y x) else none
    | none => none
  | _ => none
def isB (x y : U) : Option Bool := match y with
  | .non => match x with
    | .non => some true
    | _ => some false
  | _ => none
def cmpB (S : Sto) : CmpOp → U → U → Option Bool
  | .Eq, x, y => eqB S x y
  | .NotEq, x, y => (eqB S x y).map (!·)
  | .Lt, x, y => ltB x y
  | .LtE, x, y => leB x y
  | .Gt, x, y => gtB x y
  | .GtE, x, y => geB x y
  | .In, x, y => inB S x y
  | .NotIn, x, y => (inB S x y).map (!·)
  | .Is, x, y => isB x y
  | .IsNot, x, y => (isB x y).map (!·)
def cmpF (op : CmpOp) : Op2 := fun x y S => match cmpB S op x y with
  | some b => some (.bl b, S)
  | none => none

section
variable {X : Cx} {C : Cn}
theorem seqAt_or {S : Sto} {m : Nat} {us : List U} (e : seqAt S m = some us) : S[m]? = some (.lst us) ∨ S[m]? = some (.frz us) := by
  unfold seqAt at e
  split at e
  · rename_i h; cases e; exact .inl h
  · rename_i h; cases e; exact .inr h
  · cases e
theorem mapO_dp {S : Sto} {n : Nat} {ρ : List Addr} {H : Hp} (ih : ∀ (u : U) (v : V) (d : PyData), toD S n u = some d → C.U ρ H u v → Dp C.K H v d) : ∀ (us : List U) (vs : List V) (ds : List PyData), mapO (toD S n) us = some ds → RUs C.K ρ H us vs → DpAll C.K H vs ds
  | [], vs, ds, h, r => by
    simp only [mapO] at h; cases h
    simp only [RUs] at r; subst r; exact .nil
  | u :: us, vs, ds, h, r => by
    simp only [mapO] at h
    obtain ⟨v, vr, rfl, r1, r2⟩ := r
    split at h
    · rename_i d1 ds1 h1 h2
      cases h
      exact .cons (ih u v _ h1 r1) (mapO_dp ih us vr _ h2 r2)
    · cases h
theorem toD_dp {S : Sto} {ρ : List Addr} {H : Hp} (s : C.Z ρ H S) : ∀ (n : Nat) (u : U) (v : V) (d : PyData), toD S n u = some d → C.U ρ H u v → Dp C.K H v d := by
  intro n
  induction n with
  | zero =>
    intro u v d h r
    cases u <;> simp only [toD] at h <;> cases h
    · cases (show v = .non from r); exact .non
    · cases (show v = .bl _ from r); exact .bl _
    · cases (show v = .int _ from r); exact .int _
    · cases (show v = .str _ from r); exact .str _
  | succ n ih =>
    intro u v d h r
    cases u with
    | non => simp only [toD] at h; cases h; cases (show v = .non from r); exact .non
    | bl b => simp only [toD] at h; cases h; cases (show v = .bl _ from r); exact .bl _
    | int i => simp only [toD] at h; cases h; cases (show v = .int _ from r); exact .int _
    | str i => simp only [toD] at h; cases h; cases (show v = .str _ from r); exact .str _
    | ty i => simp only [toD] at h; cases h
    | cl i => simp only [toD] at h; cases h
    | tup us =>
      simp only [toD] at h
      obtain ⟨a, vs, rfl, t, rr⟩ := rU_tup r
      cases q : mapO (toD S n) us with
      | none => rw [q] at h; cases h
      | some ds =>
        rw [q] at h; cases h
        exact .tup t (mapO_dp ih us vs ds q rr)
    | loc l =>
      simp only [toD] at h
      cases q0 : seqAt S l with
      | none => rw [q0] at h; cases h
      | some us =>
        rw [q0] at h
        obtain ⟨a, vs, rfl, _, t, rr⟩ := rU_seq s r (seqAt_or q0)
        cases q : mapO (toD S n) us with
        | none => simp only [q] at h; cases h
        | some ds =>
          simp only [q] at h; cases h
          exact .lst t (mapO_dp ih us vs ds q rr)
theorem scalS_ok {ρ : List Addr} {H : Hp} {a b : U} {x y : V} {r : Bool} (h : scalS a b = some r) (hx : C.U ρ H a x) (hy : C.U ρ H b y) : scal x y = true ∧ decide (x = y) = r := by
  unfold scalS at h
  split at h <;> cases h <;> (first
    | (have h1 := hx; have h2 := hy; simp only [RU] at h1 h2; subst h1; subst h2; refine ⟨rfl, ?_⟩; simp [mkS_inj]; done)
    | (have h1 := hx; have h2 := hy; simp only [RU] at h1 h2; subst h1; subst h2; refine ⟨rfl, ?_⟩; simp only [V.str.injEq, V.int.injEq, V.bl.injEq, mkS_inj]))
theorem oc_eqB (hK : X.K = C.K) (hu : X.A.units + 64 < cLine) {pins : List (Addr × Obj)} {s : Shared} {σ : L2.St} {H : Hp} {x y : V} {v u : Value} {Q : VK} {ρ : List Addr} {S : Sto} {a b : U} {r : Bool} (q : eqB S a b = some r) (hz : C.Z ρ H S) (hx : C.U ρ H a x) (hy : C.U ρ H b y) :
    (Q (.bl r) H → rEq x y H Q ∨ rEqD X.K x y H Q) ∧ (Q (.bl (!r)) H → rNe x y H Q ∨ rNeD X.K x y H Q) := by
  unfold eqB at q
  split at q
  · rename_i h
    cases q
    obtain ⟨h1, h2⟩ := scalS_ok h hx hy
    exact ⟨fun k => .inl ⟨h1, by rw [h2]; exact k⟩, fun k => .inl ⟨h1, by rw [h2]; exact k⟩⟩
  · split at q
    · rename_i d e h1 h2
      split at q
      · rename_i h3
        cases q
        have d1 := toD_dp hz _ _ _ _ h1 hx
        have d2 := toD_dp hz _ _ _ _ h2 hy
        rw [← hK] at d1 d2
        exact ⟨fun k => .inr ⟨d, e, d1, d2, h3.1, h3.2, k⟩, fun k => .inr ⟨d, e, d1, d2, h3.1, h3.2, k⟩⟩
      · cases q
    · cases q
/-- a comparison whose answer is told: nothing changed -/
theorem own_cmp {g : Value → Value → Sem Value} {op : CmpOp} (ho : ∀ (pins : List (Addr × Obj)) (s : Shared) (σ : L2.St) (H : Hp) (x y : V) (v u : Value) (Q : VK) (ρ : List Addr) (S : Sto) (a b : U) (r : Bool), Inv X pins σ H s → RelV x v → RelV y u →
    cmpB S op a b = some r → C.Z ρ H S → C.U ρ H a x → C.U ρ H b y → Q (.bl r) H → wpAny (model X.prog X.w) X.A (g v u) (EP X pins σ Q) X.xe s) : OpR X g (rOwn C (cmpF op)) := by
  rintro pins s σ H x y v u Q I rx ry ⟨ρ, S, a, b, z, S', q, hz, hx, hy, k⟩
  unfold cmpF at q
  split at q
  · rename_i r h
    cases q
    exact ho pins s σ H x y v u Q ρ S a b r I rx ry h hz hx hy (k ρ H _ Ext.refl hz rfl)
  · cases q
theorem oc_eq (hK : X.K = C.K) (hu : X.A.units + 64 < cLine) : OpR X (compareOp .Eq) (rOwn C (cmpF .Eq)) := own_cmp fun pins s σ H x y v u Q ρ S a b r I rx ry h hz hx hy k => by
  rcases (oc_eqB (pins := pins) (s := s) (σ := σ) (v := v) (u := u) hK hu h hz hx hy).1 k with q | q
  · exact op_eq pins s σ H x y v u Q I rx ry q
  · exact op_eqD hu pins s σ H x y v u Q I rx ry q
theorem oc_ne (hK : X.K = C.K) (hu : X.A.units + 64 < cLine) : OpR X (compareOp .NotEq) (rOwn C (cmpF .NotEq)) := own_cmp fun pins s σ H x y v u Q ρ S a b r I rx ry h hz hx hy k => by
  have h' : (eqB S a b).map (!·) = some r := h
  cases q0 : eqB S a b with
  | none => rw [q0] at h'; cases h'
  | some r0 =>
    rw [q0] at h'; cases h'
    rcases (oc_eqB (pins := pins) (s := s) (σ := σ) (v := v) (u := u) hK hu q0 hz hx hy).2 k with q | q
    · exact op_ne pins s σ H x y v u Q I rx ry q
    · exact op_neD hu pins s σ H x y v u Q I rx ry q
theorem mapO_ints {ρ : List Addr} {H : Hp} : ∀ {us : List U} {vs : List V} {ns : List Int}, mapO asI us = some ns → RUs C.K ρ H us vs → vs = ns.map V.int
  | [], vs, ns, h, r => by
    simp only [mapO] at h; cases h
    simp only [RUs] at r; subst r; rfl
  | u :: us, vs, ns, h, r => by
    simp only [mapO] at h
    obtain ⟨v, vr, rfl, r1, r2⟩ := r
    split at h
    · rename_i d1 ds1 h1 h2
      cases h
      cases u <;> simp only [asI] at h1 <;> cases h1
      rw [mapO_ints h2 r2, rU_int r1]; rfl
    · cases h
theorem str_toList (a : List Nat) : (mkS a).cps.toList = a := by simp [mkS]
theorem oc_lt (hK : X.K = C.K) (hu : X.A.units + 64 < cLine) : OpR X (compareOp .Lt) (rOwn C (cmpF .Lt)) := own_cmp fun pins s σ H x y v u Q ρ S a b r I rx ry h hz hx hy k => by
  have h' : ltB a b = some r := h
  unfold ltB at h'
  split at h'
  · cases h'; exact op_lt pins s σ H x y v u Q I rx ry ⟨_, _, hx, hy, k⟩
  · cases h'; exact op_lt_str pins s σ H x y v u Q I rx ry ⟨_, _, hx, hy, by rw [str_toList, str_toList]; exact k⟩
  · split at h'
    · rename_i h1 h2
      cases h'
      obtain ⟨p, vs, rfl, t1, r1⟩ := rU_tup hx
      obtain ⟨p2, vs2, rfl, t2, r2⟩ := rU_tup hy
      have e1 := mapO_ints h1 r1
      have e2 := mapO_ints h2 r2
      subst e1 e2
      exact op_ltT (by omega) pins s σ H _ _ v u Q I rx ry ⟨p, p2, _, _, rfl, rfl, hK ▸ t1, hK ▸ t2, k⟩
    · cases h'
  · cases h'
theorem oc_le : OpR X (compareOp .LtE) (rOwn C (cmpF .LtE)) := own_cmp fun pins s σ H x y v u Q ρ S a b r I rx ry h hz hx hy k => by
  have h' : leB a b = some r := h
  unfold leB at h'
  split at h' <;> cases h'
  · exact op_le pins s σ H x y v u Q I rx ry ⟨_, _, hx, hy, k⟩
  · exact op_le_str pins s σ H x y v u Q I rx ry ⟨_, _, hx, hy, by rw [str_toList, str_toList]; exact k⟩
theorem oc_gt : OpR X (compareOp .Gt) (rOwn C (cmpF .Gt)) := own_cmp fun pins s σ H x y v u Q ρ S a b r I rx ry h hz hx hy k => by
  have h' : gtB a b = some r := h
  unfold gtB at h'
  split at h' <;> cases h'
  · exact op_gt pins s σ H x y v u Q I rx ry ⟨_, _, hx, hy, k⟩
  · exact op_gt_str pins s σ H x y v u Q I rx ry ⟨_, _, hx, hy, by rw [str_toList, str_toList]; exact k⟩
theorem oc_ge : OpR X (compareOp .GtE) (rOwn C (cmpF .GtE)) := own_cmp fun pins s σ H x y v u Q ρ S a b r I rx ry h hz hx hy k => by
  have h' : geB a b = some r := h
  unfold geB at h'
  split at h' <;> cases h'
  · exact op_ge pins s σ H x y v u Q I rx ry ⟨_, _, hx, hy, k⟩
  · exact op_ge_str pins s σ H x y v u Q I rx ry ⟨_, _, hx, hy, by rw [str_toList, str_toList]; exact k⟩
theorem flat_ok {ρ : List Addr} {H : Hp} {a : U} {x : V} (f : flatU a = true) (h : C.U ρ H a x) : flatV x = true := by
  cases a <;> first
    | (have h1 := h; simp only [RU] at h1; subst h1; rfl)
    | cases f
theorem flats_ok {ρ : List Addr} {H : Hp} : ∀ {us : List U} {vs : List V}, us.all flatU = true → RUs C.K ρ H us vs → vs.all flatV = true
  | [], vs, _, r => by simp only [RUs] at r; subst r; rfl
  | u :: us, vs, f, r => by
    obtain ⟨v, vr, rfl, r1, r2⟩ := r
    rw [List.all_cons, Bool.and_eq_true] at f ⊢
    exact ⟨flat_ok f.1 r1, flats_ok f.2 r2⟩
theorem eqFl_ok {ρ : List Addr} {H : Hp} {a b : U} {x y : V} (fa : flatU a = true) (fb : flatU b = true) (ha : C.U ρ H a x) (hb : C.U ρ H b y) : eqV x y = eqFl a b := by
  cases a <;> first
    | exact absurd fa Bool.false_ne_true
    | (cases b <;> first
      | exact absurd fb Bool.false_ne_true
      | (have h1 := ha; have h2 := hb; simp only [RU] at h1 h2; subst h1; subst h2; simp only [eqV, eqFl]; done)
      | (have h1 := ha; have h2 := hb; simp only [RU] at h1 h2; subst h1; subst h2; simp only [eqV, eqFl]; rw [Bool.eq_iff_iff]; simp [mkS_inj]))
theorem anyFl_ok {ρ : List Addr} {H : Hp} {b : U} {y : V} (fb : flatU b = true) (hb : C.U ρ H b y) : ∀ {us : List U} {vs : List V}, us.all flatU = true → RUs C.K ρ H us vs → inV y vs = us.any fun z => eqFl z b
  | [], vs, _, r => by simp only [RUs] at r; subst r; rfl
  | u :: us, vs, f, r => by
    obtain ⟨v, vr, rfl, r1, r2⟩ := r
    rw [List.all_cons, Bool.and_eq_true] at f
    unfold inV
    rw [List.any_cons, List.any_cons, eqFl_ok f.1 fb r1 hb]
    have := anyFl_ok fb hb f.2 r2
    unfold inV at this
    rw [this]
theorem inB_ok (hK : X.K = C.K) {H : Hp} {x y : V} {Q : VK} {ρ : List Addr} {S : Sto} {a b : U} {r : Bool} {neg : Bool} (q : inB S a b = some r) (hz : C.Z ρ H S) (hx : C.U ρ H a x) (hy : C.U ρ H b y) (k : Q (.bl (if neg then !r else r)) H) :
    (∃ (c : Nat) (z : Str), x = .str ⟨#[c]⟩ ∧ y = .str z ∧ Q (.bl (if neg then !decide (c ∈ z.cps.toList) else decide (c ∈ z.cps.toList))) H) ∨ (∃ i j, x = .str i ∧ y = .str j ∧ Q (.bl (if neg then !(!(Builtin.Str.occurrences j i 0 j.length 1).isEmpty) else !(Builtin.Str.occurrences j i 0 j.length 1).isEmpty)) H) ∨ rIn X.K neg x y H Q := by
  unfold inB at q
  split at q
  · split at q
    · cases q
      refine .inl ⟨_, _, hx, hy, ?_⟩
      rw [str_toList]; exact k
    · cases q
      exact .inr (.inl ⟨_, _, hx, hy, k⟩)
    · cases q
  · split at q
    · rename_i f; cases q
      obtain ⟨p, vs, rfl, t1, r1⟩ := rU_tup hy
      refine .inr (.inr ⟨p, vs, rfl, .inr (hK ▸ t1), flat_ok f.1 hx, flats_ok f.2 r1, ?_⟩)
      rw [anyFl_ok f.1 hx f.2 r1]; exact k
    · cases q
  · split at q
    · rename_i e
      split at q
      · rename_i f; cases q
        obtain ⟨p, vs, rfl, _, t1, r1⟩ := rU_seq hz hy (seqAt_or e)
        refine .inr (.inr ⟨p, vs, rfl, .inl (hK ▸ t1), flat_ok f.1 hx, flats_ok f.2 r1, ?_⟩)
        rw [anyFl_ok f.1 hx f.2 r1]; exact k
      · cases q
    · cases q
  · cases q
theorem oc_in (hK : X.K = C.K) : OpR X (compareOp .In) (rOwn C (cmpF .In)) := own_cmp fun pins s σ H x y v u Q ρ S a b r I rx ry h hz hx hy k => by
  rcases inB_ok (neg := false) hK (show inB S a b = some r from h) hz hx hy k with q | q | q
  · exact op_in_sign pins s σ H x y v u Q I rx ry q
  · exact op_in_str pins s σ H x y v u Q I rx ry q
  · exact op_in_seq pins s σ H x y v u Q I rx ry q
theorem oc_notin (hK : X.K = C.K) : OpR X (compareOp .NotIn) (rOwn C (cmpF .NotIn)) := own_cmp fun pins s σ H x y v u Q ρ S a b r I rx ry h hz hx hy k => by
  have h' : (inB S a b).map (!·) = some r := h
  cases q0 : inB S a b with
  | none => rw [q0] at h'; cases h'
  | some r0 =>
    rw [q0] at h'; cases h'
    rcases inB_ok (neg := true) hK q0 hz hx hy k with q | q | q
    · exact op_notIn_sign pins s σ H x y v u Q I rx ry q
    · exact op_notin_str pins s σ H x y v u Q I rx ry q
    · exact op_notIn_seq pins s σ H x y v u Q I rx ry q
theorem isB_ok {ρ : List Addr} {H : Hp} {a b : U} {x y : V} {r : Bool} (q : isB a b = some r) (hx : C.U ρ H a x) (hy : C.U ρ H b y) : y = .non ∧ decide (x = .non) = r := by
  unfold isB at q
  split at q
  · refine ⟨hy, ?_⟩
    split at q <;> cases q
    · cases (show x = .non from hx); rfl
    · rename_i hn
      refine decide_eq_false fun e => ?_
      subst e
      cases a <;> simp only [RU] at hx
      · exact hn rfl
      all_goals first | (obtain ⟨_, _, e, _⟩ := hx; cases e; done) | (obtain ⟨_, _, e⟩ := hx; cases e; done) | (cases hx; done)
  · cases q
theorem oc_is : OpR X (compareOp .Is) (rOwn C (cmpF .Is)) := own_cmp fun pins s σ H x y v u Q ρ S a b r I rx ry h hz hx hy k => by
  obtain ⟨h1, h2⟩ := isB_ok (show isB a b = some r from h) hx hy
  exact op_isN pins s σ H x y v u Q I rx ry ⟨h1, by rw [h2]; exact k⟩
theorem oc_isnot : OpR X (compareOp .IsNot) (rOwn C (cmpF .IsNot)) := own_cmp fun pins s σ H x y v u Q ρ S a b r I rx ry h hz hx hy k => by
  have h' : (isB a b).map (!·) = some r := h
  cases q0 : isB a b with
  | none => rw [q0] at h'; cases h'
  | some r0 =>
    rw [q0] at h'; cases h'
    obtain ⟨h1, h2⟩ := isB_ok q0 hx hy
    exact op_notN pins s σ H x y v u Q I rx ry ⟨h1, by rw [h2]; exact k⟩
theorem oc_all (hK : X.K = C.K) (hu : X.A.units + 64 < cLine) (op : CmpOp) : OpR X (compareOp op) (rOwn C (cmpF op)) := by
  cases op
  · exact oc_eq hK hu
  · exact oc_ne hK hu
  · exact oc_lt hK hu
  · exact oc_le
  · exact oc_gt
  · exact oc_ge
  · exact oc_is
  · exact oc_isnot
  · exact oc_in hK
  · exact oc_notin hK
end
end Bq

set_option linter.all false
set_option maxRecDepth 100000
set_option maxHeartbeats 4000000
namespace Bq
open PySem
open PySem.Spec
open PyProof.Rows
open L2
/-! ### an item, a slice -/
def ixF : Op2 := fun x y S => match y with
  | .int i => match x with
    | .str a => if a.length ≤ LIM then (match atI a i with | some c => some (.str [c], S) | none => none) else none
    | .tup us => (match atI us i with | some u => some (u, S) | none => none)
    | .loc n => match seqAt S n with
      | some us => (match atI us i with | some u => some (u, S) | none => none)
      | none => none
    | _ => none
  | _ => none
def cutL {α : Type} (xs : List α) (lo hi : Option Int) : List α := (xs.drop (HT.sIx xs.length 0 lo)).take (HT.sIx xs.length xs.length hi - HT.sIx xs.length 0 lo)
def slF (x : U) (lo hi : Option Int) (S : Sto) : Option (U × Sto) := match x with
  | .cl us => some (.loc S.length, S ++ [.lst (cutL us lo hi)])
  | .str a => if a.length ≤ LIM then some (.str (cutL a lo hi), S) else none
  | .tup us => some (.tup (cutL us lo hi), S)
  | .loc n => match seqAt S n with
    | some us => some (.loc S.length, S ++ [.lst (cutL us lo hi)])
    | none => none
  | _ => none
section
variable {X : Cx} {C : Cn}
theorem RUs.atI {ρ : List Addr} {H : Hp} {us : List U} {vs : List V} {i : Int} {u : U} (r : RUs C.K ρ H us vs) (h : atI us i = some u) : ∃ v, atI vs i = some v ∧ C.U ρ H u v := by
  unfold L2.atI at h ⊢
  rw [← r.length]
  cases q : ixN us.length i with
  | none => rw [q] at h; cases h
  | some j =>
    rw [q] at h
    exact r.get (by simpa using h)
theorem RUs.cut {ρ : List Addr} {H : Hp} {us : List U} {vs : List V} (r : RUs C.K ρ H us vs) (lo hi : Option Int) : RUs C.K ρ H (cutL us lo hi) (cutV vs lo hi) := by
  unfold cutL cutV
  rw [← r.length]
  exact (r.drop _).take _
theorem oi_ix (hK : X.K = C.K) : IxR X (rOwn C ixF) := by
  rintro value slice pins s σ H x y v u Q I rx ry ⟨ρ, S, a, b, z, S', q, hz, hx, hy, k⟩ hs
  unfold ixF at q
  split at q
  · split at q
    · split at q
      · rename_i hl
        split at q
        · rename_i c hc
          cases q
          exact ix_str value slice pins s σ H x y v u Q I rx ry ⟨_, _, c, hx, hy, by rw [mkS_len, ← LIM_eq]; exact hl, by rw [str_toList]; exact hc, k ρ H _ Ext.refl hz rfl⟩ hs
        · cases q
      · cases q
    · split at q
      · rename_i w hc
        cases q
        obtain ⟨p, vs, rfl, t1, r1⟩ := rU_tup hx
        obtain ⟨w', e1, e2⟩ := r1.atI hc
        exact ix_tup value slice pins s σ H _ y v u Q I rx ry ⟨p, vs, _, w', rfl, hy, hK ▸ t1, e1, k ρ H _ Ext.refl hz e2⟩ hs
      · cases q
    · split at q
      · rename_i e0
        split at q
        · rename_i w hc
          cases q
          obtain ⟨p, vs, rfl, _, t1, r1⟩ := rU_seq hz hx (seqAt_or e0)
          obtain ⟨w', e1, e2⟩ := r1.atI hc
          exact ix_list value slice pins s σ H _ y v u Q I rx ry ⟨p, vs, _, w', rfl, hy, hK ▸ t1, e1, k ρ H _ Ext.refl hz e2⟩ hs
        · cases q
      · cases q
    · cases q
  · cases q
def rOwnSl (C : Cn) : V → Option Int → Option Int → Hp → VK → Prop := fun x lo hi H Q => ∃ (ρ : List Addr) (S : Sto) (a z : U) (S' : Sto), slF a lo hi S = some (z, S') ∧ C.Z ρ H S ∧ C.U ρ H a x ∧ ∀ ρ' H' v, Ext ρ H ρ' H' → C.Z ρ' H' S' → C.U ρ' H' z v → Q v H'
theorem os_sl (hK : X.K = C.K) : SlR X (rOwnSl C) := by
  rintro pins s σ H x v vl vu lo hi sl Q I rx hs pl pu ⟨ρ, S, a, z, S', q, hz, hx, k⟩
  unfold slF at q
  split at q
  · cases q
    obtain ⟨p, vs, rfl, t1, r1⟩ := rU_cl hx
    refine sl_list pins s σ H _ v vl vu lo hi sl Q I rx hs pl pu ⟨p, vs, rfl, hK ▸ .inr t1, fun p3 hp3 => ?_⟩
    obtain ⟨e, zz, r⟩ := new_lst hz (r1.cut lo hi) hp3
    exact k _ _ _ e zz r
  · split at q
    · rename_i hl
      cases q
      refine sl_str pins s σ H x v vl vu lo hi sl Q I rx hs pl pu ⟨_, hx, by rw [mkS_len, ← LIM_eq]; exact hl, ?_⟩
      have e : cutS (mkS ‹List Nat›) lo hi = mkS (cutL ‹List Nat› lo hi) := by
        unfold cutS cutL
        rw [mkS_len, str_toList]; rfl
      rw [e]
      exact k ρ H _ Ext.refl hz rfl
    · cases q
  · cases q
    obtain ⟨p, vs, rfl, t1, r1⟩ := rU_tup hx
    rename_i us
    refine sl_tupA pins s σ H _ v vl vu lo hi sl Q I rx hs pl pu ⟨p, vs, rfl, hK ▸ t1, fun h => ?_, fun h p3 hp3 => ?_⟩
    · have e : cutL us lo hi = us := by
        unfold cutL
        rw [r1.length, h.1, h.2]
        simp [← r1.length]
      rw [e] at k
      exact k ρ H _ Ext.refl hz ⟨p, vs, rfl, t1, r1⟩
    · obtain ⟨e, zz, r⟩ := new_tup hz (r1.cut lo hi) hp3
      exact k _ _ _ e zz r
  · split at q
    · rename_i e0
      cases q
      obtain ⟨p, vs, rfl, _, t1, r1⟩ := rU_seq hz hx (seqAt_or e0)
      refine sl_list pins s σ H _ v vl vu lo hi sl Q I rx hs pl pu ⟨p, vs, rfl, hK ▸ t1, fun p3 hp3 => ?_⟩
      obtain ⟨e, zz, r⟩ := new_lst hz (r1.cut lo hi) hp3
      exact k _ _ _ e zz r
    · cases q
  · cases q
/-- a part of a slice -/
def TDo (C : Cn) (d : Den (Option Int)) : TO := fun σ H Q => ∃ ρ env S, Rσ C.K ρ H env σ ∧ C.Z ρ H S ∧ Post C (d env S) ρ H σ fun o _ _ H' => Q o H'
def dNo : Den (Option Int) := fun _ S => .ok none S
def asPart : U → Sto → R (Option Int)
  | .int i, S => .ok (some i) S
  | _, _ => .stuck
def dPart (d : Den U) : Den (Option Int) := fun env S => (d env S).bind asPart
theorem _root_.L2.PO.imp {e : Option Expr} {t t' : TO} (h : PO X e t) (g : ∀ σ H Q, t' σ H Q → t σ H Q) : PO X e t' := ⟨fun pins s σ H Q I q => h.run pins s σ H Q I (g _ _ _ q)⟩
theorem do_none : PO X none (TDo C dNo) := po_none.imp fun σ H Q h => by
  obtain ⟨ρ, env, S, h1, h2, hp⟩ := h
  exact hp.here h2
theorem do_some {e : Expr} {d : Den U} (h : PE X e (TD C d)) : PO X (some e) (TDo C (dPart d)) := (po_some h).imp fun σ H Q h => by
  obtain ⟨ρ, env, S, h1, h2, hp⟩ := h
  refine TD.of h1 h2 (Post.mono (Post.bind hp) fun u S1 ρ1 H1 e1 s1 k1 _ _ x hx => ?_)
  cases u with
  | int i => exact ⟨i, hx, k1.here s1⟩
  | _ => exact k1.elim
def dSl (d : Den U) (dl dh : Den (Option Int)) : Den U := fun env S => (d env S).bind fun u S1 => (dl env S1).bind fun l S2 => (dh env S2).bind fun h S3 => ofO (slF u l h S3)
theorem TDo.of {d : Den (Option Int)} {ρ : List Addr} {env : Evn} {S : Sto} {σ : L2.St} {H : Hp} {Q : Option Int → Hp → Prop} (h1 : Rσ C.K ρ H env σ) (h2 : C.Z ρ H S)
    (h : Post C (d env S) ρ H σ fun b S' ρ' H' => Ext ρ H ρ' H' → C.Z ρ' H' S' → Q b H') : TDo C d σ H Q :=
  ⟨ρ, env, S, h1, h2, Post.mono h fun u S' ρ' H' e s k => k e s⟩
theorem de_sl (hK : X.K = C.K) {e : Expr} {lo hi : Option Expr} {p2 pos : Pos} {d : Den U} {dl dh : Den (Option Int)} (he : PE X e (TD C d)) (hl : PO X lo (TDo C dl)) (hh : PO X hi (TDo C dh)) : PE X (.Subscript e (.Slice lo hi none p2) pos) (TD C (dSl d dl dh)) :=
  (pe_slice (os_sl hK) he hl hh).imp fun σ H Q h => by
    obtain ⟨ρ, env, S, h1, h2, hp⟩ := h
    refine TD.of h1 h2 (Post.mono (Post.bind hp) fun u S1 ρ1 H1 e1 s1 k1 _ _ x hx => ?_)
    refine TDo.of (h1.ext h2 e1) s1 (Post.mono (Post.bind k1) fun l S2 ρ2 H2 e2 s2 k2 _ _ => ?_)
    refine TDo.of ((h1.ext h2 e1).ext s1 e2) s2 (Post.mono (Post.bind k2) fun g S3 ρ3 H3 e3 s3 k3 _ _ => ?_)
    cases q : slF u l g S3 with
    | none => rw [q] at k3; exact k3.elim
    | some r =>
      obtain ⟨z, S'⟩ := r
      rw [q] at k3
      exact ⟨ρ3, S3, u, z, S', q, s3, RU.ext s2 e3 _ _ (RU.ext s1 e2 _ _ hx), fun ρ' H' v e s r => k3 ρ' H' e s v r⟩

/-! ### built-in functions -/
def dCallN (f : OpN) (ds : Den (List U)) : Den U := fun env S => (ds env S).bind fun us S1 => ofO (f us S1)
theorem tCB_own {f : OpN} {ds : Den (List U)} {σ : L2.St} {H : Hp} {Q : VK} (h : TD C (dCallN f ds) σ H Q) : tCB (rOwnN C f) (TDs C ds) σ H Q := by
  obtain ⟨ρ, env, S, h1, h2, hp⟩ := h
  refine TDs.of h1 h2 (Post.mono (Post.bind hp) fun us S1 ρ1 H1 e1 s1 k2 _ _ xs hx => ?_)
  cases q : f us S1 with
  | none => rw [q] at k2; exact k2.elim
  | some r =>
    obtain ⟨z, S'⟩ := r
    rw [q] at k2
    exact ⟨ρ1, S1, us, z, S', q, s1, hx, fun ρ' H' v e s r => k2 ρ' H' e s v r⟩
theorem de_callB {x : Str} {p pos : Pos} {e : Expr} {es : List Expr} {id : String} {f : OpN} {ds : Den (List U)} (hc : CallR X (.builtin id) (rOwnN C f)) (hg : Gl X x) (hm : X.mg x = none) (hv : bootBuiltins x = some (.builtin id)) (ha : PA X (e :: es) (TDs C ds)) (hn : x ≠ "__name__") (hdb : (x == ("__debug__" : Str)) = false)
    (he : starEach (e :: es) X.env = (false, eval e X.env) :: starEach es X.env) (hpl : (backTo pos (starEach es X.env)).any (·.1) = false) : PE X (.Call (.Name x p) (e :: es) [] pos) (TD C (dCallN f ds)) :=
  (pe_callB hc hg hm hv ha hn hdb he hpl).imp fun _ _ _ h => tCB_own h
theorem de_callTy {x : Str} {p pos : Pos} {e : Expr} {es : List Expr} {T : String} {f : OpN} {ds : Den (List U)} (hc : CallR X (.type T) (rOwnN C f)) (hg : Gl X x) (hm : X.mg x = none) (hv : bootBuiltins x = some (.type T)) (ha : PA X (e :: es) (TDs C ds)) (hn : x ≠ "__name__") (hdb : (x == ("__debug__" : Str)) = false)
    (he : starEach (e :: es) X.env = (false, eval e X.env) :: starEach es X.env) (hpl : (backTo pos (starEach es X.env)).any (·.1) = false) : PE X (.Call (.Name x p) (e :: es) [] pos) (TD C (dCallN f ds)) :=
  (pe_callTy hc hg hm hv ha hn hdb he hpl).imp fun _ _ _ h => tCB_own h
def lenF : OpN := fun xs S => match xs with
  | [.cl us] => some (.int us.length, S)
  | [.str a] => if a.length ≤ LIM then some (.int a.length, S) else none
  | [.tup us] => some (.int us.length, S)
  | [.loc n] => match seqAt S n with
    | some us => some (.int us.length, S)
    | none => none
  | _ => none
def listF : OpN := fun xs S => match xs with
  | [.cl us] => some (.loc S.length, S ++ [.lst us])
  | [.str a] => if a.length ≤ LIM then some (.loc S.length, S ++ [.lst (a.map fun c => .str [c])]) else none
  | [.tup us] => some (.loc S.length, S ++ [.lst us])
  | [.loc n] => match seqAt S n with
    | some us => some (.loc S.length, S ++ [.lst us])
    | none => none
  | _ => none
def tupleF : OpN := fun xs S => match xs with
  | [.tup us] => some (.tup us, S)
  | [.loc n] => match seqAt S n with
    | some us => some (.tup us, S)
    | none => none
  | _ => none
def intF : OpN := fun xs S => match xs with
  | [.int i] => some (.int i, S)
  | [.bl b] => some (.int (if b then 1 else 0), S)
  | [.str a] => if a.length ≤ 640 then (match PySem.intText? (mkS a) with | some n => some (.int n, S) | none => none) else none
  | _ => none
def strI (i : Int) : List Nat := (Str.ofString (toString i)).cps.toList
def strF : OpN := fun xs S => match xs with
  | [.int i] => if i.natAbs.log2 < 1920 then some (.str (strI i), S) else none
  | [.str a] => some (.str a, S)
  | _ => none
def ordF : OpN := fun xs S => match xs with
  | [.str [c]] => some (.int c, S)
  | _ => none
def absF : OpN := fun xs S => match xs with
  | [.int i] => some (.int (if i < 0 then -i else i), S)
  | _ => none
def intsAt (S : Sto) (n : Nat) : Option (List Int) := match seqAt S n with
  | some us => mapO asI us
  | none => none
def asBl : U → Option Bool
  | .bl b => some b
  | _ => none
def blsAt (S : Sto) (n : Nat) : Option (List Bool) := match seqAt S n with
  | some us => mapO asBl us
  | none => none
def sumF : OpN := fun xs S => match xs with
  | [.loc n] => match intsAt S n with
    | some ns => some (.int ns.sum, S)
    | none => none
  | _ => none
def maxL : List Int → Int
  | [] => 0
  | x :: xs => xs.foldl (fun a b => if a < b then b else a) x
def minL : List Int → Int
  | [] => 0
  | x :: xs => xs.foldl (fun a b => if b < a then b else a) x
def maxF : OpN := fun xs S => match xs with
  | [.loc n] => match intsAt S n with
    | some ns => if 0 < ns.length then some (.int (maxL ns), S) else none
    | none => none
  | [.int i, .int j] => some (.int (if j > i then j else i), S)
  | _ => none
def minF : OpN := fun xs S => match xs with
  | [.loc n] => match intsAt S n with
    | some ns => if 0 < ns.length then some (.int (minL ns), S) else none
    | none => none
  | [.int i, .int j] => some (.int (if j < i then j else i), S)
  | _ => none
def allF : OpN := fun xs S => match xs with
  | [.loc n] => match blsAt S n with
    | some bs => some (.bl (bs.all id), S)
    | none => none
  | _ => none
def anyF : OpN := fun xs S => match xs with
  | [.loc n] => match blsAt S n with
    | some bs => some (.bl (bs.any id), S)
    | none => none
  | _ => none
def insI (x : Int) : List Int → List Int
  | [] => [x]
  | y :: ys => if x ≤ y then x :: y :: ys else y :: insI x ys
def sortI : List Int → List Int
  | [] => []
  | x :: xs => insI x (sortI xs)
def sortedF : OpN := fun xs S => match xs with
  | [.loc n] => match intsAt S n with
    | some ns => some (.loc S.length, S ++ [.lst ((sortI ns).map .int)])
    | none => none
  | _ => none
def tyOf (S : Sto) : U → Option String
  | .non => some "NoneType"
  | .bl _ => some "bool"
  | .int _ => some "int"
  | .str _ => some "str"
  | .tup _ => some "tuple"
  | .loc n => match S[n]? with
    | some (.lst _) => some "list"
    | some (.frz _) => some "list"
    | some (.dct _) => some "dict"
    | _ => none
  | .ty _ => none
  | .cl _ => none
def knownT (a : String) : Bool := a == "bool" || a == "int" || a == "str" || a == "tuple" || a == "list" || a == "dict"
def subT (a b : String) : Bool := a == b || (a == "bool" && b == "int")
def isiF : OpN := fun xs S => match xs with
  | [x, .ty b] => match tyOf S x with
    | some a => if knownT b = true then some (.bl (subT a b), S) else none
    | none => none
  | [x, .tup [.ty b, .ty c]] => match tyOf S x with
    | some a => if knownT b = true ∧ knownT c = true then some (.bl (subT a b || subT a c), S) else none
    | none => none
  | _ => none

theorem seq_tup_or {ρ : List Addr} {H : Hp} {S : Sto} {us : List U} {x : V} : True := trivial
theorem vals1' {ρ : List Addr} {H : Hp} {u : U} {xs : List V} (h : RUs C.K ρ H [u] xs) : ∃ x, xs = [x] ∧ C.U ρ H u x := by
  obtain ⟨v, vr, rfl, h1, h2⟩ := h
  have : vr = [] := h2
  subst this
  exact ⟨v, rfl, h1⟩
theorem vals2' {ρ : List Addr} {H : Hp} {u w : U} {xs : List V} (h : RUs C.K ρ H [u, w] xs) : ∃ x y, xs = [x, y] ∧ C.U ρ H u x ∧ C.U ρ H w y := by
  obtain ⟨v, vr, rfl, h1, h2⟩ := h
  obtain ⟨y, rfl, h3⟩ := vals1' h2
  exact ⟨v, y, rfl, h1, h3⟩
theorem ol_len (hK : X.K = C.K) : CallR X (.builtin "len") (rOwnN C lenF) := by
  rintro pins s σ H xs us Q I r ⟨ρ, S, as, z, S', q, hz, hx, k⟩
  unfold lenF at q
  split at q
  · cases q
    obtain ⟨x, rfl, h1⟩ := vals1' hx
    obtain ⟨p, vs, rfl, t1, r1⟩ := rU_cl h1
    exact call_len_seq pins s σ H _ us Q I r ⟨p, vs, rfl, .inl (hK ▸ .inr t1), by rw [← r1.length]; exact k ρ H _ Ext.refl hz rfl⟩
  · split at q
    · rename_i hl; cases q
      obtain ⟨x, rfl, h1⟩ := vals1' hx
      exact call_len_str pins s σ H _ us Q I r ⟨_, by rw [rU_str h1], by rw [mkS_len, ← LIM_eq]; exact hl, by rw [mkS_len]; exact k ρ H _ Ext.refl hz rfl⟩
    · cases q
  · cases q
    obtain ⟨x, rfl, h1⟩ := vals1' hx
    obtain ⟨p, vs, rfl, t1, r1⟩ := rU_tup h1
    exact call_len_seq pins s σ H _ us Q I r ⟨p, vs, rfl, .inr (hK ▸ t1), by rw [← r1.length]; exact k ρ H _ Ext.refl hz rfl⟩
  · split at q
    · rename_i e0; cases q
      obtain ⟨x, rfl, h1⟩ := vals1' hx
      obtain ⟨p, vs, rfl, _, t1, r1⟩ := rU_seq hz h1 (seqAt_or e0)
      exact call_len_seq pins s σ H _ us Q I r ⟨p, vs, rfl, .inl (hK ▸ t1), by rw [← r1.length]; exact k ρ H _ Ext.refl hz rfl⟩
    · cases q
  · cases q
theorem signs_rel {ρ : List Addr} {H : Hp} : ∀ a : List Nat, RUs C.K ρ H (a.map fun c => U.str [c]) (a.map fun c => V.str (mkS [c]))
  | [] => rfl
  | c :: a => ⟨_, _, rfl, rfl, signs_rel a⟩
theorem vals_signs {a : List Nat} {acc : Array Value} (h : ItemsOf (SignAt (mkS a)) acc (mkS a).cps.size) : Vals (a.map fun c => V.str (mkS [c])) acc.toList := by
  have hs : acc.toList.length = a.length := by rw [Array.length_toList, h.1]; simp [mkS]
  refine L2.vals_of_at (by simp [hs]) fun j x u hx hu => ?_
  rw [List.getElem?_map] at hx
  cases q : a[j]? with
  | none => rw [q] at hx; cases hx
  | some c =>
    rw [q] at hx; cases hx
    obtain ⟨c', t, e1, e2⟩ := (show ∃ c' t, (mkS a).cps[j]? = some c' ∧ u = .str ⟨#[c']⟩ t from by
      have := h.2 j u (by rw [← hu, Array.getElem?_toList])
      exact this)
    have : c' = c := by
      have e3 : (mkS a).cps[j]? = a[j]? := by simp [mkS]
      rw [e3, q] at e1; cases e1; rfl
    subst this
    exact ⟨t, e2⟩
theorem ol_list (hK : X.K = C.K) (hc : X.calm = true) : CallR X (.type "list") (rOwnN C listF) := by
  rintro pins s σ H xs us Q I r ⟨ρ, S, as, z, S', q, hz, hx, k⟩
  unfold listF at q
  split at q
  · cases q
    obtain ⟨x, rfl, h1⟩ := vals1' hx
    obtain ⟨p, vs, rfl, t1, r1⟩ := rU_cl h1
    refine call_list_of pins s σ H _ us Q I r ⟨p, vs, rfl, .inl (hK ▸ .inr t1), fun l hl => ?_⟩
    obtain ⟨e, zz, rr⟩ := new_lst hz r1 hl
    exact k _ _ _ e zz rr
  · split at q
    · rename_i a hl; cases q
      obtain ⟨x, rfl, h1⟩ := vals1' hx
      rw [rU_str h1] at r
      obtain ⟨u, rfl, ru⟩ := L2.vals1 r
      obtain ⟨t, rfl⟩ := ru
      have hsz : (mkS a).cps.size ≤ sizeLine := by have := LIM_eq; simp [mkS]; omega
      refine call_list_str (I.ok.hd hc) (mkS a) t (fun h' tk acc c' hk e' hi => ?_) hsz
      have hv := vals_signs hi
      have hlen : (a.map fun c => V.str (mkS [c])).length ≤ sizeLine := by rw [List.length_map, ← LIM_eq]; exact hl
      have hp := I.hok.fresh (Nat.le_refl s.heap.objs.size)
      obtain ⟨e, zz, rr⟩ := new_lst hz (signs_rel (C := C) a) hp
      exact ⟨.ref s.heap.objs.size, _, I.laid hk (Nat.le_refl _) (show ObjOk X.prog X.w _ _ _ (.lst _) from ⟨hlen, acc.toList, c', hv, by rw [Array.toArray_toList]; exact e'⟩), rfl, k _ _ _ e zz rr⟩
    · cases q
  · cases q
    obtain ⟨x, rfl, h1⟩ := vals1' hx
    obtain ⟨p, vs, rfl, t1, r1⟩ := rU_tup h1
    refine call_list_of pins s σ H _ us Q I r ⟨p, vs, rfl, .inr (hK ▸ t1), fun l hl => ?_⟩
    obtain ⟨e, zz, rr⟩ := new_lst hz r1 hl
    exact k _ _ _ e zz rr
  · split at q
    · rename_i e0; cases q
      obtain ⟨x, rfl, h1⟩ := vals1' hx
      obtain ⟨p, vs, rfl, _, t1, r1⟩ := rU_seq hz h1 (seqAt_or e0)
      refine call_list_of pins s σ H _ us Q I r ⟨p, vs, rfl, .inl (hK ▸ t1), fun l hl => ?_⟩
      obtain ⟨e, zz, rr⟩ := new_lst hz r1 hl
      exact k _ _ _ e zz rr
    · cases q
  · cases q
theorem ol_tuple (hK : X.K = C.K) : CallR X (.type "tuple") (rOwnN C tupleF) := by
  rintro pins s σ H xs us Q I r ⟨ρ, S, as, z, S', q, hz, hx, k⟩
  unfold tupleF at q
  split at q
  · cases q
    obtain ⟨x, rfl, h1⟩ := vals1' hx
    obtain ⟨p, vs, rfl, t1, r1⟩ := rU_tup h1
    exact call_tuple_of pins s σ H _ us Q I r ⟨p, vs, rfl, .inr ⟨hK ▸ t1, k ρ H _ Ext.refl hz h1⟩⟩
  · split at q
    · rename_i e0; cases q
      obtain ⟨x, rfl, h1⟩ := vals1' hx
      obtain ⟨p, vs, rfl, _, t1, r1⟩ := rU_seq hz h1 (seqAt_or e0)
      refine call_tuple_of pins s σ H _ us Q I r ⟨p, vs, rfl, .inl ⟨hK ▸ t1, fun l hl => ?_⟩⟩
      obtain ⟨e, zz, rr⟩ := new_tup hz r1 hl
      exact k _ _ _ e zz rr
    · cases q
  · cases q
theorem ol_int : CallR X (.type "int") (rOwnN C intF) := by
  rintro pins s σ H xs us Q I r ⟨ρ, S, as, z, S', q, hz, hx, k⟩
  unfold intF at q
  split at q
  · cases q
    obtain ⟨x, rfl, h1⟩ := vals1' hx
    exact call_int1 pins s σ H _ us Q I r (.inl ⟨_, by rw [rU_int h1], k ρ H _ Ext.refl hz rfl⟩)
  · cases q
    obtain ⟨x, rfl, h1⟩ := vals1' hx
    exact call_int1 pins s σ H _ us Q I r (.inr ⟨_, by rw [rU_bl h1], k ρ H _ Ext.refl hz rfl⟩)
  · split at q
    · rename_i hl
      split at q
      · rename_i n hn; cases q
        obtain ⟨x, rfl, h1⟩ := vals1' hx
        exact call_int_str pins s σ H _ us Q I r ⟨_, n, by rw [rU_str h1], hn, by rw [mkS_len]; exact hl, k ρ H _ Ext.refl hz rfl⟩
      · cases q
    · cases q
  · cases q
theorem ol_str : CallR X (.type "str") (rOwnN C strF) := by
  rintro pins s σ H xs us Q I r ⟨ρ, S, as, z, S', q, hz, hx, k⟩
  unfold strF at q
  split at q
  · split at q
    · rename_i hl; cases q
      obtain ⟨x, rfl, h1⟩ := vals1' hx
      refine call_str_int pins s σ H _ us Q I r ⟨_, by rw [rU_int h1], hl, k ρ H _ Ext.refl hz ?_⟩
      show V.str (toString _ : String) = .str (mkS (strI _))
      rw [strI, mkS_cps]
    · cases q
  · cases q
    obtain ⟨x, rfl, h1⟩ := vals1' hx
    exact SkE.call_str_str pins s σ H _ us Q I r ⟨_, by rw [rU_str h1], k ρ H _ Ext.refl hz rfl⟩
  · cases q
theorem ol_ord : CallR X (.builtin "ord") (rOwnN C ordF) := by
  rintro pins s σ H xs us Q I r ⟨ρ, S, as, z, S', q, hz, hx, k⟩
  unfold ordF at q
  split at q <;> cases q
  obtain ⟨x, rfl, h1⟩ := vals1' hx
  exact call_ord pins s σ H _ us Q I r ⟨mkS [_], by rw [rU_str h1], by rw [mkS_len]; rfl, k ρ H (.int _) Ext.refl hz rfl⟩
theorem ol_abs : CallR X (.builtin "abs") (rOwnN C absF) := by
  rintro pins s σ H xs us Q I r ⟨ρ, S, as, z, S', q, hz, hx, k⟩
  unfold absF at q
  split at q <;> cases q
  obtain ⟨x, rfl, h1⟩ := vals1' hx
  exact call_abs pins s σ H _ us Q I r ⟨_, by rw [rU_int h1], k ρ H _ Ext.refl hz rfl⟩
theorem ints_at (hK : X.K = C.K) {ρ : List Addr} {H : Hp} {S : Sto} {n : Nat} {ns : List Int} {x : V} (hz : C.Z ρ H S) (h : C.U ρ H (.loc n) x) (e : intsAt S n = some ns) : ∃ p, x = .ref p ∧ SqL X.K H p (ns.map V.int) := by
  unfold intsAt at e
  split at e
  · rename_i us e0
    obtain ⟨p, vs, rfl, _, t1, r1⟩ := rU_seq hz h (seqAt_or e0)
    rw [← mapO_ints e r1]
    exact ⟨p, rfl, hK ▸ t1⟩
  · cases e
theorem mapO_bls {ρ : List Addr} {H : Hp} : ∀ {us : List U} {vs : List V} {ns : List Bool}, mapO asBl us = some ns → RUs C.K ρ H us vs → vs = ns.map V.bl
  | [], vs, ns, h, r => by
    simp only [mapO] at h; cases h
    simp only [RUs] at r; subst r; rfl
  | u :: us, vs, ns, h, r => by
    simp only [mapO] at h
    obtain ⟨v, vr, rfl, r1, r2⟩ := r
    split at h
    · rename_i d1 ds1 h1 h2
      cases h
      cases u <;> simp only [asBl] at h1 <;> cases h1
      rw [mapO_bls h2 r2, rU_bl r1]; rfl
    · cases h
theorem bls_at (hK : X.K = C.K) {ρ : List Addr} {H : Hp} {S : Sto} {n : Nat} {ns : List Bool} {x : V} (hz : C.Z ρ H S) (h : C.U ρ H (.loc n) x) (e : blsAt S n = some ns) : ∃ p, x = .ref p ∧ SqL X.K H p (ns.map V.bl) := by
  unfold blsAt at e
  split at e
  · rename_i us e0
    obtain ⟨p, vs, rfl, _, t1, r1⟩ := rU_seq hz h (seqAt_or e0)
    rw [← mapO_bls e r1]
    exact ⟨p, rfl, hK ▸ t1⟩
  · cases e
theorem ol_sum (hK : X.K = C.K) (hc : X.calm = true) : CallR X (.builtin "sum") (rOwnN C sumF) := by
  rintro pins s σ H xs us Q I r ⟨ρ, S, as, z, S', q, hz, hx, k⟩
  unfold sumF at q
  split at q
  · split at q
    · rename_i ns e; cases q
      obtain ⟨x, rfl, h1⟩ := vals1' hx
      obtain ⟨p, rfl, t⟩ := ints_at hK hz h1 e
      exact cr_sum hc pins s σ H _ us Q I r ⟨p, ns, rfl, t, k ρ H _ Ext.refl hz rfl⟩
    · cases q
  · cases q
theorem maxL_go : ∀ (xs : List Int) (a : Int), (xs.foldl (fun a b => if a < b then b else a) a = a ∨ xs.foldl (fun a b => if a < b then b else a) a ∈ xs) ∧ a ≤ xs.foldl (fun a b => if a < b then b else a) a ∧ ∀ y ∈ xs, y ≤ xs.foldl (fun a b => if a < b then b else a) a
  | [], a => ⟨.inl rfl, Int.le_refl _, by simp⟩
  | x :: xs, a => by
    obtain ⟨h1, h2, h3⟩ := maxL_go xs (if a < x then x else a)
    simp only [List.foldl_cons]
    have : a ≤ (if a < x then x else a) ∧ x ≤ (if a < x then x else a) ∧ ((if a < x then x else a) = a ∨ (if a < x then x else a) = x) := by split <;> omega
    refine ⟨?_, by omega, fun y hy => ?_⟩
    · rcases h1 with h1 | h1
      · rw [h1]
        rcases this.2.2 with e | e
        · exact .inl e
        · rw [e]; exact .inr (by simp)
      · exact .inr (List.mem_cons_of_mem _ h1)
    · rcases List.mem_cons.mp hy with rfl | hy
      · omega
      · exact h3 y hy
theorem maxL_mem : ∀ {xs : List Int}, xs ≠ [] → maxL xs ∈ xs ∧ ∀ y ∈ xs, y ≤ maxL xs
  | [], h => absurd rfl h
  | x :: xs, _ => by
    obtain ⟨h1, h2, h3⟩ := maxL_go xs x
    refine ⟨?_, fun y hy => ?_⟩
    · rcases h1 with h1 | h1
      · show maxL (x :: xs) ∈ _
        simp only [maxL]; rw [h1]; simp
      · exact List.mem_cons_of_mem _ h1
    · rcases List.mem_cons.mp hy with rfl | hy
      · exact h2
      · exact h3 y hy
theorem minL_go : ∀ (xs : List Int) (a : Int), (xs.foldl (fun a b => if b < a then b else a) a = a ∨ xs.foldl (fun a b => if b < a then b else a) a ∈ xs) ∧ xs.foldl (fun a b => if b < a then b else a) a ≤ a ∧ ∀ y ∈ xs, xs.foldl (fun a b => if b < a then b else a) a ≤ y
  | [], a => ⟨.inl rfl, Int.le_refl _, by simp⟩
  | x :: xs, a => by
    obtain ⟨h1, h2, h3⟩ := minL_go xs (if x < a then x else a)
    simp only [List.foldl_cons]
    have : (if x < a then x else a) ≤ a ∧ (if x < a then x else a) ≤ x ∧ ((if x < a then x else a) = a ∨ (if x < a then x else a) = x) := by split <;> omega
    refine ⟨?_, by omega, fun y hy => ?_⟩
    · rcases h1 with h1 | h1
      · rw [h1]
        rcases this.2.2 with e | e
        · exact .inl e
        · rw [e]; exact .inr (by simp)
      · exact .inr (List.mem_cons_of_mem _ h1)
    · rcases List.mem_cons.mp hy with rfl | hy
      · omega
      · exact h3 y hy
theorem minL_mem : ∀ {xs : List Int}, xs ≠ [] → minL xs ∈ xs ∧ ∀ y ∈ xs, minL xs ≤ y
  | [], h => absurd rfl h
  | x :: xs, _ => by
    obtain ⟨h1, h2, h3⟩ := minL_go xs x
    refine ⟨?_, fun y hy => ?_⟩
    · rcases h1 with h1 | h1
      · show minL (x :: xs) ∈ _
        simp only [minL]; rw [h1]; simp
      · exact List.mem_cons_of_mem _ h1
    · rcases List.mem_cons.mp hy with rfl | hy
      · exact h2
      · exact h3 y hy
theorem ol_max (hK : X.K = C.K) (hc : X.calm = true) : CallR X (.builtin "max") (rOwnN C maxF) := by
  rintro pins s σ H xs us Q I r ⟨ρ, S, as, z, S', q, hz, hx, k⟩
  unfold maxF at q
  split at q
  · split at q
    · rename_i ns e
      split at q
      · rename_i hl; cases q
        obtain ⟨x, rfl, h1⟩ := vals1' hx
        obtain ⟨p, rfl, t⟩ := ints_at hK hz h1 e
        have hne : ns ≠ [] := fun e => by subst e; simp at hl
        refine cr_max hc pins s σ H _ us Q I r ⟨p, ns, rfl, t, hl, fun m hm hle => ?_⟩
        have h2 := maxL_mem hne
        have : m = maxL ns := by have := hle _ h2.1; have := h2.2 _ hm; omega
        rw [this]; exact k ρ H _ Ext.refl hz rfl
      · cases q
    · cases q
  · cases q
    obtain ⟨x, y, rfl, h1, h2⟩ := vals2' hx
    exact call_max2 hc pins s σ H _ us Q I r ⟨_, _, by rw [rU_int h1, rU_int h2], k ρ H _ Ext.refl hz rfl⟩
  · cases q
theorem ol_min (hK : X.K = C.K) (hc : X.calm = true) : CallR X (.builtin "min") (rOwnN C minF) := by
  rintro pins s σ H xs us Q I r ⟨ρ, S, as, z, S', q, hz, hx, k⟩
  unfold minF at q
  split at q
  · split at q
    · rename_i ns e
      split at q
      · rename_i hl; cases q
        obtain ⟨x, rfl, h1⟩ := vals1' hx
        obtain ⟨p, rfl, t⟩ := ints_at hK hz h1 e
        have hne : ns ≠ [] := fun e => by subst e; simp at hl
        refine cr_min hc pins s σ H _ us Q I r ⟨p, ns, rfl, t, hl, fun m hm hle => ?_⟩
        have h2 := minL_mem hne
        have : m = minL ns := by have := hle _ h2.1; have := h2.2 _ hm; omega
        rw [this]; exact k ρ H _ Ext.refl hz rfl
      · cases q
    · cases q
  · cases q
    obtain ⟨x, y, rfl, h1, h2⟩ := vals2' hx
    exact call_min2 hc pins s σ H _ us Q I r ⟨_, _, by rw [rU_int h1, rU_int h2], k ρ H _ Ext.refl hz rfl⟩
  · cases q
theorem ol_all (hK : X.K = C.K) (hc : X.calm = true) : CallR X (.builtin "all") (rOwnN C allF) := by
  rintro pins s σ H xs us Q I r ⟨ρ, S, as, z, S', q, hz, hx, k⟩
  unfold allF at q
  split at q
  · split at q
    · rename_i ns e; cases q
      obtain ⟨x, rfl, h1⟩ := vals1' hx
      obtain ⟨p, rfl, t⟩ := bls_at hK hz h1 e
      exact cr_all hc pins s σ H _ us Q I r ⟨p, ns, rfl, t, k ρ H _ Ext.refl hz rfl⟩
    · cases q
  · cases q
theorem ol_any (hK : X.K = C.K) (hc : X.calm = true) : CallR X (.builtin "any") (rOwnN C anyF) := by
  rintro pins s σ H xs us Q I r ⟨ρ, S, as, z, S', q, hz, hx, k⟩
  unfold anyF at q
  split at q
  · split at q
    · rename_i ns e; cases q
      obtain ⟨x, rfl, h1⟩ := vals1' hx
      obtain ⟨p, rfl, t⟩ := bls_at hK hz h1 e
      exact cr_any hc pins s σ H _ us Q I r ⟨p, ns, rfl, t, k ρ H _ Ext.refl hz rfl⟩
    · cases q
  · cases q
theorem insI_perm (x : Int) : ∀ ys : List Int, (insI x ys).Perm (x :: ys)
  | [] => .refl _
  | y :: ys => by
    unfold insI
    split
    · exact .refl _
    · exact ((insI_perm x ys).cons y).trans (.swap x y ys)
theorem sortI_perm : ∀ xs : List Int, (sortI xs).Perm xs
  | [] => .refl _
  | x :: xs => (insI_perm x _).trans ((sortI_perm xs).cons x)
theorem insI_sorted (x : Int) : ∀ {ys : List Int}, ys.Pairwise (· ≤ ·) → (insI x ys).Pairwise (· ≤ ·)
  | [], _ => by simp [insI]
  | y :: ys, h => by
    unfold insI
    rw [List.pairwise_cons] at h
    split
    · rename_i hx
      rw [List.pairwise_cons, List.pairwise_cons]
      refine ⟨fun z hz => ?_, h⟩
      rcases List.mem_cons.mp hz with rfl | hz
      · exact hx
      · exact Int.le_trans hx (h.1 z hz)
    · rename_i hx
      rw [List.pairwise_cons]
      refine ⟨fun z hz => ?_, insI_sorted x h.2⟩
      rcases List.mem_cons.mp ((insI_perm x ys).mem_iff.mp hz) with rfl | hz
      · omega
      · exact h.1 z hz
theorem sortI_sorted : ∀ xs : List Int, (sortI xs).Pairwise (· ≤ ·)
  | [] => by simp [sortI]
  | x :: xs => insI_sorted x (sortI_sorted xs)
theorem sortI_unique {xs ys : List Int} (h1 : ys.Perm xs) (h2 : ys.Pairwise (· ≤ ·)) : ys = sortI xs :=
  (h1.trans (sortI_perm xs).symm).eq_of_pairwise (fun a b _ _ h h' => Int.le_antisymm h h') h2 (sortI_sorted xs)
theorem ints_rel {ρ : List Addr} {H : Hp} : ∀ ns : List Int, RUs C.K ρ H (ns.map U.int) (ns.map V.int)
  | [] => rfl
  | n :: ns => ⟨_, _, rfl, rfl, ints_rel ns⟩
theorem ol_sorted (hK : X.K = C.K) : CallR X (.builtin "sorted") (rOwnN C sortedF) := by
  rintro pins s σ H xs us Q I r ⟨ρ, S, as, z, S', q, hz, hx, k⟩
  unfold sortedF at q
  split at q
  · split at q
    · rename_i ns e; cases q
      obtain ⟨x, rfl, h1⟩ := vals1' hx
      obtain ⟨p, rfl, t⟩ := ints_at hK hz h1 e
      refine cr_sortedI pins s σ H _ us Q I r ⟨p, ns, rfl, t, fun ns' p' h1 h2 hp => ?_⟩
      rw [sortI_unique h1 h2]
      obtain ⟨e, zz, rr⟩ := new_lst hz (ints_rel (C := C) (sortI ns)) hp
      exact k _ _ _ e zz rr
    · cases q
  · cases q
theorem kitB_sub {a b : String} (ha : knownT a = true ∨ a = "NoneType") (hb : knownT b = true) : kitB a b = some (subT a b) := by
  simp only [knownT, Bool.or_eq_true, beq_iff_eq] at ha hb
  rcases ha with (((((rfl | rfl) | rfl) | rfl) | rfl) | rfl) | rfl <;> rcases hb with ((((rfl | rfl) | rfl) | rfl) | rfl) | rfl <;> decide +kernel
theorem tyOf_ok (hK : X.K = C.K) {ρ : List Addr} {H : Hp} {S : Sto} {u : U} {x : V} {a : String} (hz : C.Z ρ H S) (h : C.U ρ H u x) (e : tyOf S u = some a) : TyX X.K H x (.type a) ∧ (knownT a = true ∨ a = "NoneType") := by
  cases u with
  | non => cases e; cases (show x = .non from h); exact ⟨.base .non, .inr rfl⟩
  | bl b => cases e; cases (show x = .bl b from h); exact ⟨.base (.bl _), .inl rfl⟩
  | int b => cases e; cases (show x = .int b from h); exact ⟨.base (.int _), .inl rfl⟩
  | str b => cases e; cases (show x = .str (mkS b) from h); exact ⟨.base (.str _), .inl rfl⟩
  | ty b => cases e
  | cl b => cases e
  | tup us =>
    cases e
    obtain ⟨p, vs, rfl, t1, r1⟩ := rU_tup h
    refine ⟨?_, .inl rfl⟩
    rcases t1 with (t1 | ⟨o, t1⟩) | ⟨o, its, n, h1, h2, _⟩
    · exact .base (.tup t1)
    · exact .fTuple t1
    · exact .kTuple (hK ▸ h1) h2
  | loc n =>
    simp only [tyOf] at e
    obtain ⟨p, e1, rfl⟩ := (h : ∃ a, ρ[n]? = some a ∧ x = .ref a)
    split at e
    · rename_i us q; cases e
      obtain ⟨vs, h1, _⟩ := hz.ob n _ p q e1
      exact ⟨.base (.lst h1), .inl rfl⟩
    · rename_i us q; cases e
      obtain ⟨vs, o, h1, _⟩ := hz.ob n _ p q e1
      exact ⟨.base (.frz h1), .inl rfl⟩
    · rename_i us q; cases e
      obtain ⟨vs, h1, _⟩ := hz.ob n _ p q e1
      exact ⟨.base (.dK h1), .inl rfl⟩
    · cases e
theorem ol_isi (hK : X.K = C.K) : CallR X (.builtin "isinstance") (rOwnN C isiF) := by
  rintro pins s σ H xs us Q I r ⟨ρ, S, as, z, S', q, hz, hx, k⟩
  unfold isiF at q
  split at q
  · split at q
    · rename_i a e
      split at q
      · rename_i hb; cases q
        obtain ⟨x, y, rfl, h1, h2⟩ := vals2' hx
        cases (show y = .ty _ from h2)
        obtain ⟨t, ka⟩ := tyOf_ok hK hz h1 e
        exact call_isi pins s σ H _ us Q I r ⟨x, _, _, _, _, rfl, .ty _, t, kit_ty (kitB_sub ka hb), k ρ H _ Ext.refl hz rfl⟩
      · cases q
    · cases q
  · split at q
    · rename_i b c _ a e
      split at q
      · rename_i hb; cases q
        obtain ⟨x, y, rfl, h1, h2⟩ := vals2' hx
        obtain ⟨p, vs, rfl, t1, r1⟩ := rU_tup h2
        obtain ⟨y1, y2, rfl, k1, k2⟩ := vals2' r1
        cases (show y1 = .ty _ from k1)
        cases (show y2 = .ty _ from k2)
        obtain ⟨t, ka⟩ := tyOf_ok hK hz h1 e
        have kk : ∀ r, PySem.W.kitAny X.K (.type a) [.type b, .type c] = some r → r = (subT a b || subT a c) := by
          intro r hr
          unfold PySem.W.kitAny at hr
          rw [kit_ty (kitB_sub ka hb.1)] at hr
          cases q1 : subT a b with
          | true => rw [q1] at hr; simpa using hr.symm
          | false =>
            rw [q1] at hr
            unfold PySem.W.kitAny at hr
            rw [kit_ty (kitB_sub ka hb.2)] at hr
            cases q2 : subT a c with
            | true => rw [q2] at hr; simpa using hr.symm
            | false => rw [q2] at hr; unfold PySem.W.kitAny at hr; simpa using hr.symm
        have kv : PySem.W.kitAny X.K (.type a) [.type b, .type c] = some (subT a b || subT a c) := by
          unfold PySem.W.kitAny
          rw [kit_ty (kitB_sub ka hb.1)]
          cases q1 : subT a b with
          | true => rfl
          | false =>
            unfold PySem.W.kitAny
            rw [kit_ty (kitB_sub ka hb.2)]
            cases q2 : subT a c with
            | true => rfl
            | false => rfl
        rcases t1 with (t1 | ⟨o, t1⟩) | ⟨o, its, n, g1, g2, g3, g4, g5⟩
        · exact call_isiT pins s σ H _ us Q I r ⟨x, p, _, _, [.type b, .type c], _, rfl, t1, .cons (.ty _) (.cons (.ty _) .nil), t, kv, k ρ H _ Ext.refl hz rfl⟩
        · -- frozen: its own object holds the two types
          obtain ⟨u1, u2, rfl, ru1, ru2⟩ := vals2 r
          cases (show u2 = Value.ref p from ru2)
          obtain ⟨P, Z, pp, hxx⟩ := kit_of I ru1 t
          obtain ⟨_, _, its, rv, o', e1, e2, n, e3⟩ := I.hok p _ t1
          have e4 : its = [.type b, .type c] := by
            cases rv with
            | cons a1 a2 => cases a2 with
              | cons b1 b2 => cases b2; cases a1; cases b1; rfl
          subst e4
          obtain ⟨oc, od, dt, sl⟩ := o'
          simp only at e2 e3
          subst e2 e3
          exact PySem.W.kia_tup Z I.kIn pp e1 kv hxx fun tk => ⟨.bl _, H, I.tok tk, rfl, k ρ H _ Ext.refl hz rfl⟩
        · obtain ⟨u1, u2, rfl, ru1, ru2⟩ := vals2 r
          cases (show u2 = Value.ref p from ru2)
          obtain ⟨P, Z, pp, hxx⟩ := kit_of I ru1 t
          have e4 : its.toList = [.type b, .type c] := by
            cases q4 : its.toList with
            | nil => rw [q4] at g5; cases g5
            | cons i1 i2 =>
              rw [q4] at g5
              cases g5 with
              | cons a1 a2 => cases a2 with
                | cons b1 b2 => cases b2; cases a1; cases b1; rfl
          have e5 : its = #[.type b, .type c] := by rw [← Array.toArray_toList (xs := its), e4]
          subst e5
          obtain ⟨oc, od, dt, sl⟩ := o
          simp only at g2 g3
          subst g2 g3
          exact PySem.W.kia_tup Z I.kIn pp (I.kIn p _ (hK ▸ g1)) kv hxx fun tk => ⟨.bl _, H, I.tok tk, rfl, k ρ H _ Ext.refl hz rfl⟩
      · cases q
    · cases q
  · cases q
end
end Bq

set_option linter.all false
set_option maxRecDepth 100000
set_option maxHeartbeats 4000000
namespace Bq
open PySem
open PySem.Spec
open PyProof.Rows
open L2
/-! ### syntax: no star, no super -/
def starred : Expr → Bool
  | .Starred _ _ => true
  | _ => false
theorem starEach_cons {e : Expr} {es : List Expr} {env : Env} (h : starred e = false) : starEach (e :: es) env = (false, eval e env) :: starEach es env := by
  cases e <;> first | rfl | exact absurd h (by simp [starred])
theorem assignEach_cons {e : Expr} {es : List Expr} {env : Env} (h : starred e = false) : assignEach (e :: es) env = (false, assign e env) :: assignEach es env := by
  cases e <;> first | rfl | exact absurd h (by simp [starred])
theorem star_any : ∀ {es : List Expr} {env : Env}, es.all (fun e => !starred e) = true → (starEach es env).any (·.1) = false
  | [], _, _ => rfl
  | e :: es, env, h => by
    rw [List.all_cons, Bool.and_eq_true] at h
    rw [starEach_cons (by simpa using h.1), List.any_cons, star_any h.2]; rfl
theorem back_any {pos : Pos} {es : List Expr} {env : Env} (h : es.all (fun e => !starred e) = true) : (backTo pos (starEach es env)).any (·.1) = false := by
  unfold backTo
  rw [List.any_map]
  exact star_any h
theorem back_all {pos : Pos} {es : List Expr} {env : Env} (h : es.all (fun e => !starred e) = true) : (backTo pos (starEach es env)).all (fun x => !x.1) = true := by
  have := back_any (pos := pos) (env := env) h
  rw [List.all_eq_not_any_not]
  simp [this]
theorem star_len : ∀ {es : List Expr} {env : Env}, (starEach es env).length = es.length
  | [], _ => rfl
  | e :: es, env => by
    cases e <;> simp [starEach, star_len (es := es) (env := env)]
def plainO : Expr → Bool
  | .Call (.Name _ _) [] [] _ => false
  | _ => true
theorem base_plain {o : Expr} {a : Str} {env : Env} {w : Sem Value} (h : plainO o = true) : attributeBase o a env w = w := by
  unfold attributeBase
  split
  · simp [plainO] at h
  · rfl
def plainIx : Expr → Bool
  | .Slice _ _ _ _ => false
  | _ => true
theorem ix_plain {b : Expr} (h : plainIx b = true) : PlainIx b := by
  intro o i
  cases b <;> first | rfl | exact absurd h (by simp [plainIx])
def plainT : Expr → Bool
  | .UnaryOp .Not _ _ => false
  | .BoolOp _ _ _ => false
  | .IfExp _ _ _ _ => false
  | .Compare _ _ _ _ => false
  | _ => true
theorem t_plain {e : Expr} {env : Env} (h : plainT e = true) : ∀ whole, isTrue e env whole = (do let v ← whole; standAt e.pos; holding [v] (truthy v)) := by
  intro whole
  cases e with
  | UnaryOp op a p => cases op <;> first | rfl | exact absurd h (by simp [plainT])
  | _ => first | rfl | exact absurd h (by simp [plainT])
def isSet : Expr → Bool
  | .Set _ _ _ => true
  | _ => false
theorem mark_plain {op : CmpOp} {b : Expr} (h : isSet b = false) : behindInMarks op b = false := by
  cases b <;> first | rfl | exact absurd h (by simp [isSet])
theorem set_plain {e : Expr} {env : Env} (h : isSet e = false) : ∀ x, foldedSetIterable e env x = pure x := by
  intro x
  cases e <;> first | rfl | exact absurd h (by simp [isSet])

/-! ### methods of built-in types -/
def tyU (T : String) (S : Sto) : U → Bool
  | .str _ => T == "str"
  | .int _ => T == "int"
  | .loc n => match S[n]? with
    | some (.lst _) => T == "list"
    | some (.frz _) => T == "list"
    | some (.dct _) => T == "dict"
    | _ => false
  | _ => false
abbrev OpM := U → List U → Sto → Option (U × Sto)
def dMth (T : String) (f : OpM) (d : Den U) (ds : Den (List U)) : Den U := fun env S => (d env S).bind fun u S1 => if tyU T S1 u = true then (ds env S1).bind fun us S2 => ofO (f u us S2) else .stuck
section
variable {X : Cx} {C : Cn}
def rOwnM (C : Cn) (f : OpM) : V → List V → Hp → VK → Prop := fun x xs H Q => ∃ (ρ : List Addr) (S : Sto) (a : U) (as : List U) (z : U) (S' : Sto), f a as S = some (z, S') ∧ C.Z ρ H S ∧ C.U ρ H a x ∧ RUs C.K ρ H as xs ∧ ∀ ρ' H' v, Ext ρ H ρ' H' → C.Z ρ' H' S' → C.U ρ' H' z v → Q v H'
theorem tyU_ok (hK : X.K = C.K) {T : String} {ρ : List Addr} {H : Hp} {S : Sto} {u : U} {x : V} (hz : C.Z ρ H S) (h : C.U ρ H u x) (e : tyU T S u = true) : tyV X.K T x H := by
  cases u with
  | str b => cases (show x = .str (mkS b) from h); exact (show T = "str" by simpa [tyU] using e)
  | int b => cases (show x = .int b from h); exact (show T = "int" by simpa [tyU] using e)
  | loc n =>
    simp only [tyU] at e
    obtain ⟨p, e1, rfl⟩ := (h : ∃ a, ρ[n]? = some a ∧ x = .ref a)
    split at e
    · rename_i q
      obtain ⟨vs, h1, _⟩ := hz.ob n _ p q e1
      exact .inl ⟨by simpa using e, vs, .inl (.inl h1)⟩
    · rename_i q
      obtain ⟨vs, o, h1, _⟩ := hz.ob n _ p q e1
      exact .inl ⟨by simpa using e, vs, .inl (.inr ⟨o, h1⟩)⟩
    · rename_i q
      obtain ⟨vs, h1, _⟩ := hz.ob n _ p q e1
      exact .inr (.inr (.inl ⟨by simpa using e, .inl ⟨vs, h1⟩⟩))
    · cases e
  | _ => cases e
theorem tBM_own (hK : X.K = C.K) {T : String} {f : OpM} {d : Den U} {ds : Den (List U)} {σ : L2.St} {H : Hp} {Q : VK} (h : TD C (dMth T f d ds) σ H Q) : tBM X.K T (rOwnM C f) (TD C d) (TDs C ds) σ H Q := by
  obtain ⟨ρ, env, S, h1, h2, hp⟩ := h
  refine TD.of h1 h2 (Post.mono (Post.bind hp) fun u S1 ρ1 H1 e1 s1 k1 _ _ x hx => ?_)
  split at k1
  · rename_i ht
    refine ⟨tyU_ok hK s1 hx ht, TDs.of (h1.ext h2 e1) s1 (Post.mono (Post.bind k1) fun us S2 ρ2 H2 e2 s2 k2 _ _ xs hxs => ?_)⟩
    cases q : f u us S2 with
    | none => rw [q] at k2; exact k2.elim
    | some r =>
      obtain ⟨z, S'⟩ := r
      rw [q] at k2
      exact ⟨ρ2, S2, u, us, z, S', q, s2, RU.ext s1 e2 _ _ hx, hxs, fun ρ' H' v e s r => k2 ρ' H' e s v r⟩
  · exact k1.elim
theorem de_m {T id : String} {name : Str} {f : OpM} {o e : Expr} {es : List Expr} {apos cpos : Pos} {d : Den U} {ds : Den (List U)} (hK : X.K = C.K) (pa : PlainAttrs T) (slot : Slot T name id) (hty : typeOf (.builtin id) = pure (.type "method_descriptor")) (hm : MtR X id (rOwnM C f))
    (ho : PE X o (TD C d)) (ha : PA X (e :: es) (TDs C ds)) (hb : plainO o = true) (hns : (e :: es).all (fun e => !starred e) = true) (hl : (e :: es).length < 20) (hline : (apos.endLine == cpos.line) = true) : PE X (.Call (.Attribute o name apos) (e :: es) [] cpos) (TD C (dMth T f d ds)) := by
  have h1 : starred e = false := by rw [List.all_cons, Bool.and_eq_true] at hns; simpa using hns.1
  have h2 : es.all (fun e => !starred e) = true := by rw [List.all_cons, Bool.and_eq_true] at hns; exact hns.2
  refine (pe_bm pa slot hty hm ho ha (base_plain hb) ?_ hline (starEach_cons h1) (back_any h2)).imp fun _ _ _ h => tBM_own hK h
  rw [back_all hns]
  have : (e :: es).length + 0 + 0 < 30 := by omega
  simpa [backToKw, keywordEach] using this
theorem de_m0 {T id : String} {name : Str} {f : OpM} {o : Expr} {apos cpos : Pos} {d : Den U} (hK : X.K = C.K) (pa : PlainAttrs T) (slot : Slot T name id) (hty : typeOf (.builtin id) = pure (.type "method_descriptor")) (hm : MtR X id (rOwnM C f))
    (ho : PE X o (TD C d)) (hb : plainO o = true) (hline : (apos.endLine == cpos.line) = true) : PE X (.Call (.Attribute o name apos) [] [] cpos) (TD C (dMth T f d dNil)) :=
  (pe_bm0 pa slot hty hm ho (base_plain hb) hline).imp fun σ H Q h => by
    obtain ⟨ρ, env, S, h1, h2, hp⟩ := h
    refine TD.of h1 h2 (Post.mono (Post.bind hp) fun u S1 ρ1 H1 e1 s1 k1 _ _ x hx => ?_)
    split at k1
    · rename_i ht
      refine ⟨tyU_ok hK s1 hx ht, ?_⟩
      have k2 : Post C (ofO (f u [] S1)) ρ1 H1 σ fun u x ρ' H' => ∀ v, C.U ρ' H' u v → Q v H' := k1
      cases q : f u [] S1 with
      | none => rw [q] at k2; exact k2.elim
      | some r =>
        obtain ⟨z, S'⟩ := r
        rw [q] at k2
        exact ⟨ρ1, S1, u, [], z, S', q, s1, hx, rfl, fun ρ' H' v e s r => k2 ρ' H' e s v r⟩
    · exact k1.elim

/-- a list of the store changed -/
theorem put_lst {ρ : List Addr} {H : Hp} {S : Sto} {n : Nat} {p : Addr} {us : List U} {vs : List V} (s : C.Z ρ H S) (e : ρ[n]? = some p) (r : RUs C.K ρ H us vs) : Ext ρ H ρ (upd H p (.lst vs)) ∧ C.Z ρ (upd H p (.lst vs)) (S.set n (.lst us)) := by
  have ex : Ext ρ H ρ (upd H p (.lst vs)) := Ext.put (List.mem_of_getElem? e)
  exact ⟨ex, s.put e ⟨vs, upd_same, RUs.ext s ex _ _ r⟩⟩
def appendF : OpM := fun x as S => match x, as with
  | .loc n, [y] => match S[n]? with
    | some (.lst us) => if us.length < LIM then some (.non, S.set n (.lst (us ++ [y]))) else none
    | _ => none
  | _, _ => none
def extendF : OpM := fun x as S => match x, as with
  | .loc n, [.loc m] => match S[n]?, S[m]? with
    | some (.lst us), some (.lst ws) => if us.length + ws.length ≤ LIM then some (.non, S.set n (.lst (us ++ ws))) else none
    | _, _ => none
  | _, _ => none
def popF : OpM := fun x as S => match x, as with
  | .loc n, [] => match S[n]? with
    | some (.lst us) => match us[us.length - 1]? with
      | some y => some (y, S.set n (.lst us.dropLast))
      | none => none
    | _ => none
  | .loc n, [.int i] => match S[n]? with
    | some (.lst us) => if 0 ≤ i ∧ Sm 1000000000 i then (match us[i.toNat]? with
      | some y => some (y, S.set n (.lst (us.eraseIdx i.toNat)))
      | none => none) else none
    | _ => none
  | _, _ => none
def asS : U → Option (List Nat)
  | .str s => some s
  | _ => none
def strsOf (S : Sto) : U → Option (List (List Nat))
  | .tup us => mapO asS us
  | .loc n => match seqAt S n with
    | some us => mapO asS us
    | none => none
  | _ => none
def joinF : OpM := fun x as S => match x, as with
  | .str a, [y] => match strsOf S y with
    | some ys => if (ys.map (·.length)).sum + ys.length * a.length ≤ LIM then some (.str (TL.joinL a ys), S) else none
    | none => none
  | _, _ => none
def splitF : OpM := fun x as S => match x, as with
  | .str a, [.str b] => if b ≠ [] ∧ (mkS b).cps.all (· < 256) = true ∧ a.length + 2 ≤ LIM then some (.loc S.length, S ++ [.lst ((TL.spl b 0 [] a).map .str)]) else none
  | _, _ => none
def startsF : OpM := fun x as S => match x, as with
  | .str a, [.str b] => some (.bl (Txt.startswith (mkS a) (mkS b)), S)
  | _, _ => none
def countF : OpM := fun x as S => match x, as with
  | .loc n, [.int k] => match intsAt S n with
    | some ns => some (.int (ns.count k : Nat), S)
    | none => none
  | _, _ => none
def bitsF : U → Sto → Option (U × Sto)
  | .int i, S => some (.int (Builtin.Int.intBits i : Nat), S)
  | _, _ => none
theorem om_append : MtR X "list.append" (rOwnM C appendF) := by
  rintro pins s σ H x xs v us Q I rx rxs ⟨ρ, S, a, as, z, S', q, hz, hx, hxs, k⟩
  unfold appendF at q
  split at q
  · split at q
    · rename_i e0
      split at q
      · rename_i hl; cases q
        obtain ⟨y, rfl, h1⟩ := vals1' hxs
        obtain ⟨p, vs, rfl, e1, t1, r1⟩ := rU_lst hz hx e0
        refine mt_append pins s σ H _ _ v us Q I rx rxs ⟨p, vs, y, rfl, rfl, t1, by rw [← r1.length, ← LIM_eq]; exact hl, ?_⟩
        obtain ⟨e, zz⟩ := put_lst hz e1 (r1.append (us := ‹List U›) (ws := [_]) (xs := [y]) ⟨y, [], rfl, h1, rfl⟩)
        exact k _ _ _ e zz rfl
      · cases q
    · cases q
  · cases q
theorem om_extend : MtR X "list.extend" (rOwnM C extendF) := by
  rintro pins s σ H x xs v us Q I rx rxs ⟨ρ, S, a, as, z, S', q, hz, hx, hxs, k⟩
  unfold extendF at q
  split at q
  · split at q
    · rename_i e0 e2
      split at q
      · rename_i hl; cases q
        obtain ⟨y, rfl, h1⟩ := vals1' hxs
        obtain ⟨p, vs, rfl, e1, t1, r1⟩ := rU_lst hz hx e0
        obtain ⟨p2, vs2, rfl, _, t2, r2⟩ := rU_lst hz h1 e2
        refine mt_extend pins s σ H _ _ v us Q I rx rxs ⟨p, p2, vs, vs2, rfl, rfl, t1, t2, by rw [← r1.length, ← r2.length, ← LIM_eq]; exact hl, ?_⟩
        obtain ⟨e, zz⟩ := put_lst hz e1 (r1.append r2)
        exact k _ _ _ e zz rfl
      · cases q
    · cases q
  · cases q
theorem RUs.dropLast {ρ : List Addr} {H : Hp} {us : List U} {vs : List V} (h : RUs C.K ρ H us vs) : RUs C.K ρ H us.dropLast vs.dropLast := by
  rw [List.dropLast_eq_take, List.dropLast_eq_take, h.length]
  exact h.take _
theorem RUs.erase {ρ : List Addr} {H : Hp} {us : List U} {vs : List V} (h : RUs C.K ρ H us vs) (i : Nat) : RUs C.K ρ H (us.eraseIdx i) (vs.eraseIdx i) := by
  rw [List.eraseIdx_eq_take_drop_succ, List.eraseIdx_eq_take_drop_succ]
  exact (h.take _).append (h.drop _)
theorem om_pop : MtR X "list.pop" (rOwnM C popF) := by
  rintro pins s σ H x xs v us Q I rx rxs ⟨ρ, S, a, as, z, S', q, hz, hx, hxs, k⟩
  unfold popF at q
  split at q
  · split at q
    · rename_i e0
      split at q
      · rename_i y hy; cases q
        have : xs = [] := hxs
        subst this
        obtain ⟨p, vs, rfl, e1, t1, r1⟩ := rU_lst hz hx e0
        obtain ⟨y', h1, h2⟩ := r1.get hy
        refine mt_pop pins s σ H _ _ v us Q I rx rxs ⟨p, vs, y', rfl, rfl, t1, by rw [← r1.length]; exact h1, ?_⟩
        obtain ⟨e, zz⟩ := put_lst hz e1 r1.dropLast
        exact k _ _ _ e zz (RU.ext hz e _ _ h2)
      · cases q
    · cases q
  · split at q
    · rename_i e0
      split at q
      · rename_i hi
        have hi := And.intro hi.1 hi.2.lt.2
        split at q
        · rename_i y hy; cases q
          obtain ⟨w, rfl, h0⟩ := vals1' hxs
          cases (rU_int h0)
          obtain ⟨p, vs, rfl, e1, t1, r1⟩ := rU_lst hz hx e0
          obtain ⟨y', h1, h2⟩ := r1.get hy
          have hlt := (List.getElem?_eq_some_iff.mp h1).1
          have hix : ixN vs.length ‹Int› = some (‹Int›.toNat) := by
            unfold ixN
            rw [if_pos hi.1, if_pos (by omega)]
          refine mt_popAt pins s σ H _ _ v us Q I rx rxs ⟨p, vs, _, _, y', rfl, rfl, t1, by omega, by omega, (ixN_seq hix).1, h1, ?_⟩
          obtain ⟨e, zz⟩ := put_lst hz e1 (r1.erase _)
          exact k _ _ _ e zz (RU.ext hz e _ _ h2)
        · cases q
      · cases q
    · cases q
  · cases q
theorem mapO_strs {ρ : List Addr} {H : Hp} : ∀ {us : List U} {vs : List V} {ns : List (List Nat)}, mapO asS us = some ns → RUs C.K ρ H us vs → vs = (ns.map mkS).map V.str
  | [], vs, ns, h, r => by
    simp only [mapO] at h; cases h
    simp only [RUs] at r; subst r; rfl
  | u :: us, vs, ns, h, r => by
    simp only [mapO] at h
    obtain ⟨v, vr, rfl, r1, r2⟩ := r
    split at h
    · rename_i d1 ds1 h1 h2
      cases h
      cases u <;> simp only [asS] at h1 <;> cases h1
      rw [mapO_strs h2 r2, rU_str r1]; rfl
    · cases h
theorem strsOf_ok (hK : X.K = C.K) {ρ : List Addr} {H : Hp} {S : Sto} {u : U} {x : V} {ys : List (List Nat)} (hz : C.Z ρ H S) (h : C.U ρ H u x) (e : strsOf S u = some ys) : ∃ p, x = .ref p ∧ (SqL X.K H p ((ys.map mkS).map V.str) ∨ SqT X.K H p ((ys.map mkS).map V.str)) := by
  unfold strsOf at e
  split at e
  · obtain ⟨p, vs, rfl, t1, r1⟩ := rU_tup h
    rw [← mapO_strs e r1]
    exact ⟨p, rfl, .inr (hK ▸ t1)⟩
  · split at e
    · rename_i e0
      obtain ⟨p, vs, rfl, _, t1, r1⟩ := rU_seq hz h (seqAt_or e0)
      rw [← mapO_strs e r1]
      exact ⟨p, rfl, .inl (hK ▸ t1)⟩
    · cases e
  · cases e
theorem tl_mkS (a : List Nat) : TL.tl (mkS a) = a := str_toList a
theorem map_tl_mkS : ∀ ys : List (List Nat), (ys.map mkS).map TL.tl = ys
  | [] => rfl
  | y :: ys => by rw [List.map_cons, List.map_cons, map_tl_mkS ys, tl_mkS]
theorem om_join (hK : X.K = C.K) : MtR X "str.join" (rOwnM C joinF) := by
  rintro pins s σ H x xs v us Q I rx rxs ⟨ρ, S, a, as, z, S', q, hz, hx, hxs, k⟩
  unfold joinF at q
  split at q
  · split at q
    · rename_i ys e0
      split at q
      · rename_i hl; cases q
        obtain ⟨y, rfl, h1⟩ := vals1' hxs
        obtain ⟨p, rfl, t⟩ := strsOf_ok hK hz h1 e0
        refine mt_join pins s σ H _ _ v us Q I rx rxs ⟨_, p, ys.map mkS, rU_str hx, rfl, t, ?_, ?_⟩
        · have e : ((ys.map mkS).map (·.length)) = ys.map (·.length) := by simp [mkS_len]
          rw [e, List.length_map, mkS_len]
          exact hl
        · have e : Txt.join (mkS ‹List Nat›) (ys.map mkS) = mkS (TL.joinL ‹List Nat› ys) := by
            rw [TL.join_eq]
            have := TL.tl_join (mkS ‹List Nat›) (ys.map mkS)
            rw [tl_mkS, map_tl_mkS] at this
            rw [← this]
            exact (mkS_cps _).symm
          rw [e]
          exact k _ _ _ Ext.refl hz rfl
      · cases q
    · cases q
  · cases q
theorem strs_rel {ρ : List Addr} {H : Hp} : ∀ ys : List (List Nat), RUs C.K ρ H (ys.map U.str) ((ys.map mkS).map V.str)
  | [] => rfl
  | n :: ns => ⟨_, _, rfl, rfl, strs_rel ns⟩
theorem om_split : MtR X "str.split" (rOwnM C splitF) := by
  rintro pins s σ H x xs v us Q I rx rxs ⟨ρ, S, a, as, z, S', q, hz, hx, hxs, k⟩
  unfold splitF at q
  split at q
  · rename_i a b
    split at q
    · rename_i hl; cases q
      obtain ⟨y, rfl, h1⟩ := vals1' hxs
      obtain ⟨g1, g2, g3⟩ := hl
      refine mt_split pins s σ H _ _ v us Q I rx rxs ⟨_, _, rU_str hx, by rw [rU_str h1], ?_, by rw [mkS_len, ← LIM_eq]; exact g3, fun p hp => ?_⟩
      · rw [mkS_len]; cases b with
        | nil => exact absurd rfl g1
        | cons => rfl
      · have e : (Txt.split (mkS a) (mkS b)) = (TL.spl b 0 [] a).map mkS := by
          refine TL.map_tl_inj ?_
          rw [TL.split_spl _ _ (by rw [tl_mkS]; exact g1) (TL.kind_ok g2), tl_mkS, tl_mkS, map_tl_mkS]
        rw [e]
        obtain ⟨e, zz, rr⟩ := new_lst hz (strs_rel (C := C) _) hp
        exact k _ _ _ e zz rr
    · cases q
  · cases q
theorem om_starts : MtR X "str.startswith" (rOwnM C startsF) := by
  rintro pins s σ H x xs v us Q I rx rxs ⟨ρ, S, a, as, z, S', q, hz, hx, hxs, k⟩
  unfold startsF at q
  split at q <;> cases q
  obtain ⟨y, rfl, h1⟩ := vals1' hxs
  exact mt_startswith pins s σ H _ _ v us Q I rx rxs ⟨_, _, rU_str hx, by rw [rU_str h1], k _ _ _ Ext.refl hz rfl⟩
theorem om_count (hK : X.K = C.K) : MtR X "list.count" (rOwnM C countF) := by
  rintro pins s σ H x xs v us Q I rx rxs ⟨ρ, S, a, as, z, S', q, hz, hx, hxs, k⟩
  unfold countF at q
  split at q
  · split at q
    · rename_i e; cases q
      obtain ⟨y, rfl, h1⟩ := vals1' hxs
      obtain ⟨p, rfl, t⟩ := ints_at hK hz hx e
      exact mt_lcount pins s σ H _ _ v us Q I rx rxs ⟨p, _, _, rfl, by rw [rU_int h1], t, k _ _ _ Ext.refl hz rfl⟩
    · cases q
  · cases q
theorem de_bits {o : Expr} {apos pos : Pos} {d : Den U} (ho : PE X o (TD C d)) (hb : plainO o = true) (hline : (apos.endLine == pos.line) = true) : PE X (.Call (.Attribute o "bit_length" apos) [] [] pos) (TD C (dUn bitsF d)) :=
  (pe_bits ho (base_plain hb) hline).imp fun σ H Q h => by
    obtain ⟨ρ, env, S, h1, h2, hp⟩ := h
    refine TD.of h1 h2 (Post.mono (Post.bind hp) fun u S1 ρ1 H1 e1 s1 k1 _ _ x hx => ?_)
    cases u with
    | int i => exact ⟨i, hx, k1.here s1 _ rfl⟩
    | _ => exact k1.elim
end
end Bq

set_option linter.all false
set_option maxRecDepth 100000
set_option maxHeartbeats 4000000
namespace Bq
open PySem
open PySem.Spec
open PyProof.Rows
open L2
/-! ### statements -/
inductive SR where
  | nx (e : Evn) (S : Sto) | brk (e : Evn) (S : Sto) | ct (e : Evn) (S : Sto) | ret (u : U) (S : Sto) | exc (c : Nat) (u : U) (e : Evn) (S : Sto) | stuck
abbrev DS := Evn → Sto → SR
section
variable {X : Cx} {C : Cn} {ρ ρ' : List Addr} {H H' : Hp} {σ : L2.St} {S S' : Sto}
def PostS (C : Cn) (r : SR) (ρ : List Addr) (H : Hp) (D : Ends) : Prop := match r with
  | .nx e S' => ∀ ρ' H' σ', Ext ρ H ρ' H' → C.Z ρ' H' S' → Rσ C.K ρ' H' e σ' → D.nx σ' H'
  | .brk e S' => ∀ ρ' H' σ', Ext ρ H ρ' H' → C.Z ρ' H' S' → Rσ C.K ρ' H' e σ' → D.bk σ' H'
  | .ct e S' => ∀ ρ' H' σ', Ext ρ H ρ' H' → C.Z ρ' H' S' → Rσ C.K ρ' H' e σ' → D.ct σ' H'
  | .ret u S' => ∀ ρ' H' v, Ext ρ H ρ' H' → C.Z ρ' H' S' → C.U ρ' H' u v → D.rt v H'
  | .exc c u e S' => ∀ ρ' H' σ', Ext ρ H ρ' H' → C.Z ρ' H' S' → Rσ C.K ρ' H' e σ' → C.Ex c u ρ' H' σ'
  | .stuck => False
theorem PostS.ext {r : SR} {D : Ends} (h : PostS C r ρ H D) (e : Ext ρ H ρ' H') : PostS C r ρ' H' D := by
  cases r with
  | nx e2 S' => exact fun ρ2 H2 σ2 e3 => h ρ2 H2 σ2 (e.trans e3)
  | brk e2 S' => exact fun ρ2 H2 σ2 e3 => h ρ2 H2 σ2 (e.trans e3)
  | ct e2 S' => exact fun ρ2 H2 σ2 e3 => h ρ2 H2 σ2 (e.trans e3)
  | ret e2 S' => exact fun ρ2 H2 σ2 e3 => h ρ2 H2 σ2 (e.trans e3)
  | exc c u e2 S' => exact fun ρ2 H2 σ2 e3 => h ρ2 H2 σ2 (e.trans e3)
  | stuck => exact h
def TDS (C : Cn) (d : DS) : TS := fun D σ H => ∃ ρ env S, Rσ C.K ρ H env σ ∧ C.Z ρ H S ∧ PostS C (d env S) ρ H D
/-- an expression's run goes on as a statement's -/
def R.toS {α : Type} (env : Evn) (r : R α) (f : α → Sto → SR) : SR := match r with
  | .ok a S => f a S
  | .exc c u S => .exc c u env S
  | .stuck => .stuck
theorem PostS.of {α : Type} {r : R α} {f : α → Sto → SR} {env : Evn} {D : Ends} (hσ : Rσ C.K ρ H env σ) (hz : C.Z ρ H S) (h : PostS C (r.toS env f) ρ H D) : Post C r ρ H σ fun a S1 ρ1 H1 => Rσ C.K ρ1 H1 env σ ∧ C.Z ρ1 H1 S1 ∧ PostS C (f a S1) ρ1 H1 D := by
  cases r with
  | ok a S1 => exact fun ρ1 H1 e s => ⟨hσ.ext hz e, s, PostS.ext h e⟩
  | exc c u S1 => exact fun ρ1 H1 e s => h ρ1 H1 σ e s (hσ.ext hz e)
  | stuck => exact h
theorem _root_.L2.PS.imp {st : Stmt} {t t' : TS} (h : PS X st t) (g : ∀ D σ H, t' D σ H → t D σ H) : PS X st t' := ⟨fun pins s σ H D I q => h.run pins s σ H D I (g _ _ _ q)⟩
theorem _root_.L2.PSs.imp {st : List Stmt} {t t' : TS} (h : PSs X st t) (g : ∀ D σ H, t' D σ H → t D σ H) : PSs X st t' := ⟨fun pins s σ H D I q => h.run pins s σ H D I (g _ _ _ q)⟩
theorem _root_.L2.PG.imp {tg : Expr} {t t' : TG} (h : PG X tg t) (g : ∀ v σ H Q, t' v σ H Q → t v σ H Q) : PG X tg t' := ⟨fun pins s σ H v u Q I r q => h.run pins s σ H v u Q I r (g _ _ _ _ q)⟩
theorem _root_.L2.PGs.imp {tg : List Expr} {t t' : TGs} (h : PGs X tg t) (g : ∀ v σ H Q, t' v σ H Q → t v σ H Q) : PGs X tg t' := ⟨fun pins s σ H v u Q I r q => h.run pins s σ H v u Q I r (g _ _ _ _ q)⟩
theorem _root_.L2.PI.imp {tg it : Expr} {t t' : TI} (h : PI X tg it t) (g : ∀ σ H Q, t' σ H Q → t σ H Q) : PI X tg it t' := ⟨fun pins s σ H Q I q => h.run pins s σ H Q I (g _ _ _ q)⟩
theorem _root_.L2.PTs.imp {es : List Expr} {t t' : TT} (h : PTs X es t) (g : ∀ σ H Q, t' σ H Q → t σ H Q) : PTs X es t' := ⟨fun pins s σ H Q I q => h.run pins s σ H Q I (g _ _ _ q)⟩
theorem TD.ofS {α : Type} {d : Den U} {env : Evn} {Q : VK} {D : Ends} {f : U → Sto → SR} (hσ : Rσ C.K ρ H env σ) (hz : C.Z ρ H S) (h : PostS C ((d env S).toS env f) ρ H D)
    (k : ∀ u S1 ρ1 H1 v, Rσ C.K ρ1 H1 env σ → C.Z ρ1 H1 S1 → C.U ρ1 H1 u v → PostS C (f u S1) ρ1 H1 D → Q v H1) : TD C d σ H Q :=
  ⟨ρ, env, S, hσ, hz, Post.mono (PostS.of hσ hz h) fun u S1 ρ1 H1 e s ⟨a, b, c⟩ v hv => k u S1 ρ1 H1 v a b hv c⟩

def sNext : DS := fun env S => .nx env S
def sSeq (d e : DS) : DS := fun env S => match d env S with
  | .nx env1 S1 => e env1 S1
  | r => r
theorem dss_nil : PSs X [] (TDS C sNext) := pss_nil.imp fun D σ H h => by
  obtain ⟨ρ, env, S, h1, h2, hp⟩ := h
  exact hp ρ H σ Ext.refl h2 h1
theorem dss_cons {st : Stmt} {sts : List Stmt} {d e : DS} (h : PS X st (TDS C d)) (hr : PSs X sts (TDS C e)) : PSs X (st :: sts) (TDS C (sSeq d e)) :=
  (pss_cons h hr).imp fun D σ H h => by
    obtain ⟨ρ, env, S, h1, h2, hp⟩ := h
    refine ⟨ρ, env, S, h1, h2, ?_⟩
    unfold sSeq at hp
    cases q : d env S with
    | nx e1 S1 =>
      rw [q] at hp
      exact fun ρ1 H1 σ1 ex s r => ⟨ρ1, e1, S1, r, s, PostS.ext hp ex⟩
    | _ => rw [q] at hp; exact hp
def sRet (d : Den U) : DS := fun env S => (d env S).toS env fun u S1 => .ret u S1
theorem ds_ret {e : Expr} {pos : Pos} {d : Den U} (h : PE X e (TD C d)) : PS X (.Return (some e) pos) (TDS C (sRet d)) := (ps_ret h).imp fun D σ H h => by
  obtain ⟨ρ, env, S, h1, h2, hp⟩ := h
  exact TD.ofS (α := U) h1 h2 hp fun u S1 ρ1 H1 v a b hv c => c ρ1 H1 v Ext.refl b hv
theorem ds_retN {pos : Pos} : PS X (.Return none pos) (TDS C fun _ S => .ret .non S) := ps_retN.imp fun D σ H h => by
  obtain ⟨ρ, env, S, h1, h2, hp⟩ := h
  exact hp ρ H .non Ext.refl h2 rfl
def sExpr (d : Den U) : DS := fun env S => (d env S).toS env fun _ S1 => .nx env S1
theorem ds_expr {e : Expr} {pos : Pos} {d : Den U} (h : PE X e (TD C d)) (hs : swapsWith e none pos.line X.env = pure false) : PS X (.Expr e pos) (TDS C (sExpr d)) := (ps_expr h hs).imp fun D σ H h => by
  obtain ⟨ρ, env, S, h1, h2, hp⟩ := h
  exact TD.ofS (α := U) h1 h2 hp fun u S1 ρ1 H1 v a b hv c => c ρ1 H1 σ Ext.refl b a
theorem ds_pass {pos : Pos} : PS X (.Pass pos) (TDS C sNext) := ps_pass.imp fun D σ H h => by
  obtain ⟨ρ, env, S, h1, h2, hp⟩ := h
  exact hp ρ H σ Ext.refl h2 h1
theorem ds_break {pos : Pos} : PS X (.Break pos) (TDS C fun env S => .brk env S) := ps_break.imp fun D σ H h => by
  obtain ⟨ρ, env, S, h1, h2, hp⟩ := h
  exact hp ρ H σ Ext.refl h2 h1
theorem ds_continue {pos : Pos} : PS X (.Continue pos) (TDS C fun env S => .ct env S) := ps_continue.imp fun D σ H h => by
  obtain ⟨ρ, env, S, h1, h2, hp⟩ := h
  exact hp ρ H σ Ext.refl h2 h1
theorem ds_stuck {st : Stmt} : PS X st (TDS C fun _ _ => .stuck) := ps_never.imp fun D σ H h => by
  obtain ⟨ρ, env, S, h1, h2, hp⟩ := h
  exact hp.elim
theorem de_stuck {e : Expr} : PE X e (TD C fun _ _ => .stuck) := ⟨fun pins s σ H Q I h => by
  obtain ⟨ρ, env, S, h1, h2, hp⟩ := h
  exact hp.elim⟩
def sIf (c : Den U) (a b : DS) : DS := fun env S => (dB c env S).toS env fun k S1 => if k then a env S1 else b env S1
theorem ds_if {c : Expr} {a b : List Stmt} {pos : Pos} {dc : Den U} {da db : DS} (hc : PT X c (TDb C (dB dc))) (ha : PSs X a (TDS C da)) (hb : PSs X b (TDS C db)) : PS X (.If c a b pos) (TDS C (sIf dc da db)) :=
  (ps_if hc ha hb).imp fun D σ H h => by
    obtain ⟨ρ, env, S, h1, h2, hp⟩ := h
    refine ⟨ρ, env, S, h1, h2, Post.mono (PostS.of h1 h2 hp) fun k S1 ρ1 H1 e s ⟨a1, b1, c1⟩ => ?_⟩
    cases k with
    | true => exact ⟨ρ1, env, S1, a1, b1, c1⟩
    | false => exact ⟨ρ1, env, S1, a1, b1, c1⟩

/-! ### targets -/
/-- a target's run: what stands in the slots behind it -/
inductive GR where
  | ok (e : Evn) (S : Sto) | stuck
abbrev DG := U → Evn → Sto → GR
def PostG (C : Cn) (r : GR) (ρ : List Addr) (H : Hp) (k : Evn → Sto → List Addr → Hp → Prop) : Prop := match r with
  | .ok e S' => ∀ ρ' H', Ext ρ H ρ' H' → C.Z ρ' H' S' → k e S' ρ' H'
  | .stuck => False
/-- sl: the slots that it may store -/
def TDg (C : Cn) (sl : List Nat) (d : DG) : TG := fun v σ H Q => ∃ ρ env S u, Rσ C.K ρ H env σ ∧ C.Z ρ H S ∧ C.U ρ H u v ∧
  PostG C (d u env S) ρ H fun e S' ρ' H' => ∀ σ', Rσ C.K ρ' H' e σ' → σ'.length = σ.length → (∀ j, j ∉ sl → σ'[j]? = σ[j]?) → Q σ' H'
def TDgs (C : Cn) (sl : List Nat) (d : List U → Evn → Sto → GR) : TGs := fun vs σ H Q => ∃ ρ env S us, Rσ C.K ρ H env σ ∧ C.Z ρ H S ∧ RUs C.K ρ H us vs ∧
  PostG C (d us env S) ρ H fun e S' ρ' H' => ∀ σ', Rσ C.K ρ' H' e σ' → σ'.length = σ.length → (∀ j, j ∉ sl → σ'[j]? = σ[j]?) → Q σ' H'
def gNm (i : Nat) : DG := fun u env S => .ok (env.set i (some u)) S
theorem dg_nm {i : Nat} {x : Str} {pos : Pos} (hN : X.N.Nodup) (hi : X.N[i]? = some x) (hx : Loc X.env.scope x) (hf : X.fn x = true ∨ X.env.scope.names.lookup x = some .local) : PG X (.Name x pos) (TDg C [i] (gNm i)) :=
  (pg_name hN hi hx hf).imp fun v σ H Q h => by
    obtain ⟨ρ, env, S, u, h1, h2, h3, hp⟩ := h
    refine hp ρ H Ext.refl h2 _ (h1.set h3 i) (by simp) fun j hj => ?_
    rw [List.getElem?_set_ne (by intro e; subst e; simp at hj)]
def gNil' : List U → Evn → Sto → GR := fun us env S => match us with
  | [] => .ok env S
  | _ => .stuck
def gCons' (d : DG) (ds : List U → Evn → Sto → GR) : List U → Evn → Sto → GR := fun us env S => match us with
  | u :: us => (match d u env S with
    | .ok e S1 => ds us e S1
    | .stuck => .stuck)
  | [] => .stuck
theorem dgs_nil : PGs X [] (TDgs C [] gNil') := pgs_nil.imp fun vs σ H Q h => by
  obtain ⟨ρ, env, S, us, h1, h2, h3, hp⟩ := h
  cases us with
  | nil => exact ⟨h3, hp ρ H Ext.refl h2 σ h1 rfl fun _ _ => rfl⟩
  | cons _ _ => exact hp.elim
theorem dgs_cons {e : Expr} {es : List Expr} {sl sl' : List Nat} {d : DG} {ds : List U → Evn → Sto → GR} (h : PG X e (TDg C sl d)) (hr : PGs X es (TDgs C sl' ds)) (hs : starred e = false) : PGs X (e :: es) (TDgs C (sl ++ sl') (gCons' d ds)) :=
  (pgs_cons h hr (by rw [assignEach_cons hs]; rfl)).imp fun vs σ H Q h => by
    obtain ⟨ρ, env, S, us, h1, h2, h3, hp⟩ := h
    cases us with
    | nil => exact hp.elim
    | cons u us =>
      obtain ⟨v, vr, rfl, r1, r2⟩ := h3
      refine ⟨v, vr, rfl, ρ, env, S, u, h1, h2, r1, ?_⟩
      unfold gCons' at hp
      cases q : d u env S with
      | stuck => simp only [q] at hp; exact hp.elim
      | ok e1 S1 =>
        simp only [q] at hp
        refine fun ρ1 H1 ex s σ1 a1 a2 a3 => ⟨ρ1, e1, S1, us, a1, s, RUs.ext h2 ex _ _ r2, ?_⟩
        cases q2 : ds us e1 S1 with
        | stuck => rw [q2] at hp; exact hp.elim
        | ok e2 S2 =>
          rw [q2] at hp
          refine fun ρ2 H2 ex2 s2 σ2 b1 b2 b3 => hp ρ2 H2 (ex.trans ex2) s2 σ2 b1 (b2.trans a2) fun j hj => ?_
          rw [List.mem_append, not_or] at hj
          rw [b3 j hj.2, a3 j hj.1]
def gTp (ds : List U → Evn → Sto → GR) : DG := fun u env S => match u with
  | .tup us => ds us env S
  | _ => .stuck
/-- how many there must be -/
def gLen (n : Nat) (ds : List U → Evn → Sto → GR) : List U → Evn → Sto → GR := fun us env S => if us.length = n then ds us env S else .stuck
theorem dg_tp (hK : X.K = C.K) {es : List Expr} {k : Nat} {pos : Pos} {sl : List Nat} {ds : List U → Evn → Sto → GR} (hc : X.calm = true) (h : PGs X es (TDgs C sl ds)) (hs : es.all (fun e => !starred e) = true) : PG X (.Tuple es k pos) (TDg C sl (gTp (gLen es.length ds))) := by
  have e1 : (assignEach es X.env).length = es.length ∧ (assignEach es X.env).findIdx? (·.1) = none := by
    induction es with
    | nil => exact ⟨rfl, rfl⟩
    | cons e es ih =>
      rw [List.all_cons, Bool.and_eq_true] at hs
      have : ∀ es : List Expr, es.all (fun e => !starred e) = true → (assignEach es X.env).length = es.length ∧ (assignEach es X.env).findIdx? (·.1) = none := by
        intro es
        induction es with
        | nil => exact fun _ => ⟨rfl, rfl⟩
        | cons e es ih =>
          intro hs
          rw [List.all_cons, Bool.and_eq_true] at hs
          rw [assignEach_cons (by simpa using hs.1)]
          obtain ⟨a, b⟩ := ih hs.2
          exact ⟨by simp [a], by simp [List.findIdx?_cons, b]⟩
      exact this (e :: es) (by rw [List.all_cons, Bool.and_eq_true]; exact hs)
  refine (pg_tup hc h (n := es.length) e1.1 e1.2).imp fun v σ H Q hh => ?_
  obtain ⟨ρ, env, S, u, h1, h2, h3, hp⟩ := hh
  cases u with
  | tup us =>
    obtain ⟨a, vs, rfl, t, r⟩ := rU_tup h3
    have hp' : PostG C (gLen es.length ds us env S) ρ H _ := hp
    unfold gLen at hp'
    split at hp'
    · rename_i hl
      exact ⟨a, vs, rfl, hK ▸ t, by rw [← r.length]; exact hl, ρ, env, S, us, h1, h2, r, hp'⟩
    · exact hp'.elim
  | _ => exact hp.elim
/-- o[i] = v -/
def setF : U → U → U → Sto → Option Sto := fun o i v S => match o, i with
  | .loc n, .int i => match S[n]? with
    | some (.lst us) => (match ixN us.length i with
      | some j => some (S.set n (.lst (us.set j v)))
      | none => none)
    | _ => none
  | _, _ => none
def rOwnSet (C : Cn) : V → V → V → Hp → (Hp → Prop) → Prop := fun o i v H Q => ∃ (ρ : List Addr) (S : Sto) (a b c : U) (S' : Sto), setF a b c S = some S' ∧ C.Z ρ H S ∧ C.U ρ H a o ∧ C.U ρ H b i ∧ C.U ρ H c v ∧ ∀ ρ' H', Ext ρ H ρ' H' → C.Z ρ' H' S' → Q H'
theorem ot_set : PSet X (rOwnSet C) := by
  rintro pins s σ H o i v ov iv u Q I ro ri rv ⟨ρ, S, a, b, c, S', q, hz, ha, hb, hc, k⟩
  unfold setF at q
  split at q
  · split at q
    · rename_i e0
      split at q
      · rename_i j hj; cases q
        obtain ⟨p, vs, rfl, e1, t1, r1⟩ := rU_lst hz ha e0
        refine set_list pins s σ H _ i v ov iv u Q I ro ri rv ⟨p, vs, _, j, rfl, hb, t1, by rw [← r1.length]; exact hj, ?_⟩
        obtain ⟨e, zz⟩ := put_lst hz e1 (r1.set hc j)
        exact k _ _ e zz
      · cases q
    · cases q
  · cases q
def gSb (do_ di : Den U) : DG := fun v env S => match do_ env S with
  | .ok o S1 => (match di env S1 with
    | .ok i S2 => (match setF o i v S2 with
      | some S3 => .ok env S3
      | none => .stuck)
    | _ => .stuck)
  | _ => .stuck
theorem dg_sub {o i : Expr} {pos : Pos} {do_ di : Den U} (ho : PE X o (TD C do_)) (hi : PE X i (TD C di)) (hp : plainIx i = true) : PG X (.Subscript o i pos) (TDg C [] (gSb do_ di)) := by
  refine (pg_sub (X := X) ho hi (ot_set (C := C)) (by intro v; cases i <;> first | rfl | exact absurd hp (by simp [plainIx]))).imp fun v σ H Q hh => ?_
  obtain ⟨ρ, env, S, u, h1, h2, h3, hp⟩ := hh
  unfold gSb at hp
  cases q : do_ env S with
  | ok a S1 =>
    simp only [q] at hp
    refine ⟨ρ, env, S, h1, h2, ?_⟩
    rw [q]
    refine fun ρ1 H1 ex1 s1 x hx => ⟨ρ1, env, S1, h1.ext h2 ex1, s1, ?_⟩
    cases q2 : di env S1 with
    | ok b S2 =>
      simp only [q2] at hp
      refine fun ρ2 H2 ex2 s2 y hy => ?_
      cases q3 : setF a b u S2 with
      | none => rw [q3] at hp; exact hp.elim
      | some S3 =>
        rw [q3] at hp
        exact ⟨ρ2, S2, a, b, u, S3, q3, s2, RU.ext s1 ex2 _ _ hx, hy, RU.ext s1 ex2 _ _ (RU.ext h2 ex1 _ _ h3), fun ρ3 H3 ex3 s3 => hp ρ3 H3 ((ex1.trans ex2).trans ex3) s3 σ (((h1.ext h2 ex1).ext s1 ex2).ext s2 ex3) rfl fun _ _ => rfl⟩
    | exc c u' S2 => simp only [q2] at hp; exact hp.elim
    | stuck => simp only [q2] at hp; exact hp.elim
  | exc c u' S2 => simp only [q] at hp; exact hp.elim
  | stuck => simp only [q] at hp; exact hp.elim
def sAsg (d : Den U) (g : DG) : DS := fun env S => (d env S).toS env fun u S1 => match g u env S1 with
  | .ok e S2 => .nx e S2
  | .stuck => .stuck
theorem asg_own {te : TE} {sl : List Nat} {d : Den U} {g : DG} {D : Ends} {σ : L2.St} {H : Hp} (h : TDS C (sAsg d g) D σ H) : tAsg (TD C d) (TDg C sl g) D σ H := by
  obtain ⟨ρ, env, S, h1, h2, hp⟩ := h
  refine TD.ofS (α := U) h1 h2 hp fun u S1 ρ1 H1 v a b hv c => ⟨ρ1, env, S1, u, a, b, hv, ?_⟩
  cases q : g u env S1 with
  | stuck => rw [q] at c; exact c.elim
  | ok e S2 =>
    rw [q] at c
    exact fun ρ2 H2 ex s2 σ2 b1 b2 b3 => c ρ2 H2 σ2 ex s2 b1
theorem ds_asg {tg e : Expr} {pos : Pos} {sl : List Nat} {d : Den U} {g : DG} (he : PE X e (TD C d)) (hg : PG X tg (TDg C sl g)) (ht : starred tg = false) (hs : swapsWithSole [tg] e pos.line X.env = pure false) (hw : swappedStores [tg] e X.env = pure none) : PS X (.Assign [tg] e pos) (TDS C (sAsg d g)) :=
  (ps_asg he hg hs hw (by rw [assignEach_cons ht]; rfl)).imp fun D σ H h => asg_own (te := TD C d) h
theorem ds_set {i : Nat} {x : Str} {e : Expr} {pos pos' : Pos} {d : Den U} (hN : X.N.Nodup) (hi : X.N[i]? = some x) (hx : Loc X.env.scope x) (hf : X.fn x = true ∨ X.env.scope.names.lookup x = some .local) (he : PE X e (TD C d)) (hs : swapsWith e (some (.Name x pos')) pos.line X.env = pure false) : PS X (.Assign [.Name x pos'] e pos) (TDS C (sAsg d (gNm i))) :=
  (ps_set hN hi hx he hs hf).imp fun D σ H h => by
    obtain ⟨ρ, env, S, h1, h2, hp⟩ := h
    exact TD.ofS (α := U) h1 h2 hp fun u S1 ρ1 H1 v a b hv c => c ρ1 H1 _ Ext.refl b (a.set hv i)
/-- a, b = x, y: both values, then both names -/
def sPar (i j : Nat) (ds : Den (List U)) : DS := fun env S => (ds env S).toS env fun us S1 => match us with
  | [u, w] => .nx ((env.set i (some u)).set j (some w)) S1
  | _ => .stuck
theorem ds_par {i j : Nat} {x y : Str} {a b : Expr} {ds : Den (List U)} {px py pt pos : Pos} {kt k2 pt2} (hc : X.calm = true) (hN : X.N.Nodup) (hi : X.N[i]? = some x) (hj : X.N[j]? = some y) (hij : i ≠ j)
    (hx : X.env.scope.names.lookup x = some .local) (hy : X.env.scope.names.lookup y = some .local) (ha : PA X [a, b] (TDs C ds))
    (hw : swappedStores [.Tuple [.Name x px, .Name y py] kt pt] (.Tuple [a, b] k2 pt2) X.env = pure (some [x, y])) : PS X (.Assign [.Tuple [.Name x px, .Name y py] kt pt] (.Tuple [a, b] k2 pt2) pos) (TDS C (sPar i j ds)) :=
  (ps_par hc hN hi hj hij hx hy ha hw rfl).imp fun D σ H h => by
    obtain ⟨ρ, env, S, h1, h2, hp⟩ := h
    refine ⟨ρ, env, S, h1, h2, Post.mono (PostS.of h1 h2 hp) fun us S1 ρ1 H1 e s ⟨a1, b1, c1⟩ vs hv => ?_⟩
    split at c1
    · obtain ⟨v, w, rfl, r1, r2⟩ := vals2' hv
      exact ⟨v, w, rfl, c1 ρ1 H1 _ Ext.refl b1 ((a1.set r1 i).set r2 j)⟩
    · exact c1.elim

/-! ### what is walked -/
inductive J where
  | vals (xs : List U) | lst (l : Nat) | en (k : Int) (j : J) | zp (a b : J)
def J.at (S : Sto) (i : Nat) : J → Option (Option U)
  | .vals xs => some xs[i]?
  | .lst l => match seqAt S l with
    | some us => some us[i]?
    | none => none
  | .en k j => match j.at S i with
    | some (some u) => some (some (.tup [.int (k + i), u]))
    | r => r
  | .zp a b => match a.at S i, b.at S i with
    | some (some x), some (some y) => some (some (.tup [x, y]))
    | some _, some _ => some none
    | _, _ => none
def J.len (S : Sto) : J → Nat
  | .vals xs => xs.length
  | .lst l => match seqAt S l with
    | some us => us.length
    | none => 0
  | .en _ j => j.len S
  | .zp a b => min (a.len S) (b.len S)
theorem SqT_out {K : PySem.W.Frag} {D : Addr} {vs ws : List V} (hD : H D = some (.lst vs)) {a : Addr} {xs : List V} (h : SqT K H a xs) : SqT K (upd H D (.lst ws)) a xs := by
  rcases h with (h | ⟨o, h⟩) | h
  · refine .inl (.inl ?_); rw [upd_ne (by rintro rfl; rw [hD] at h; cases h)]; exact h
  · refine .inl (.inr ⟨o, ?_⟩); rw [upd_ne (by rintro rfl; rw [hD] at h; cases h)]; exact h
  · exact .inr h
theorem RU.out {K : PySem.W.Frag} {D : Addr} {vs ws : List V} (hD : H D = some (.lst vs)) : ∀ (u : U) (v : V), RU K ρ H u v → RU K ρ (upd H D (.lst ws)) u v := by
  have sq : ∀ a xs, SqT K H a xs → SqT K (upd H D (.lst ws)) a xs := fun a xs h => by
    rcases h with (h | ⟨o, h⟩) | h
    · refine .inl (.inl ?_); rw [upd_ne (by rintro rfl; rw [hD] at h; cases h)]; exact h
    · refine .inl (.inr ⟨o, ?_⟩); rw [upd_ne (by rintro rfl; rw [hD] at h; cases h)]; exact h
    · exact .inr h
  exact fun u => U.rec (motive_1 := fun u => ∀ v, RU K ρ H u v → RU K ρ (upd H D (.lst ws)) u v) (motive_2 := fun us => ∀ vs, RUs K ρ H us vs → RUs K ρ (upd H D (.lst ws)) us vs)
    (fun _ h => h) (fun _ _ h => h) (fun _ _ h => h) (fun _ _ h => h) (fun us ih v h => by obtain ⟨a, vs, h1, h2, h3⟩ := h; exact ⟨a, vs, h1, sq _ _ h2, ih _ h3⟩) (fun _ _ h => h) (fun _ _ h => h) (fun us ih v h => by obtain ⟨a, vs, h1, h2, h3⟩ := h; exact ⟨a, vs, h1, h2, ih _ h3⟩)
    (fun _ h => h) (fun u us i1 i2 vs h => by obtain ⟨v, vr, h1, h2, h3⟩ := h; exact ⟨v, vr, h1, i1 _ h2, i2 _ h3⟩) u
theorem RUs.out {K : PySem.W.Frag} {D : Addr} {vs ws : List V} (hD : H D = some (.lst vs)) : ∀ (us : List U) (xs : List V), RUs K ρ H us xs → RUs K ρ (upd H D (.lst ws)) us xs
  | [], _, h => h
  | u :: us, _, h => by obtain ⟨v, vr, h1, h2, h3⟩ := h; exact ⟨v, vr, h1, RU.out hD _ _ h2, RUs.out hD us _ h3⟩
/-- an iterator as it is told, by own values; G stands as long as what is ours alone is changed -/
structure Iok (C : Cn) (j : J) (Jt : It) (G : List Addr → Hp → Prop) : Prop where
  keep : ∀ ρ H S ρ' H', C.Z ρ H S → Ext ρ H ρ' H' → G ρ H → G ρ' H'
  out : ∀ ρ H S D vs ws, C.Z ρ H S → H D = some (.lst vs) → D ∉ ρ → G ρ H → G ρ (upd H D (.lst ws))
  go : ∀ i ρ H S u, C.Z ρ H S → G ρ H → j.at S i = some (some u) → Jt.go i H ∧ ∀ x H', Jt.yld i H x H' → Ext ρ H ρ H' ∧ C.Z ρ H' S ∧ C.U ρ H' u x
  stop : ∀ i ρ H S, C.Z ρ H S → G ρ H → j.at S i = some none → Jt.stop i H
def TDi (C : Cn) (d : Den J) : TI := fun σ H R => ∃ ρ env S, Rσ C.K ρ H env σ ∧ C.Z ρ H S ∧ Post C (d env S) ρ H σ fun j S' ρ' H' => ∀ Jt G, Iok C j Jt G → G ρ' H' → R Jt H'
def forL (g : DG) (b : DS) (j : J) : Nat → Nat → Evn → Sto → SR
  | 0, _, _, _ => .stuck
  | n + 1, i, env, S => match j.at S i with
    | none => .stuck
    | some none => .nx env S
    | some (some u) => match g u env S with
      | .stuck => .stuck
      | .ok e1 S1 => match b e1 S1 with
        | .nx e2 S2 => forL g b j n (i + 1) e2 S2
        | .ct e2 S2 => forL g b j n (i + 1) e2 S2
        | .brk e2 S2 => .nx e2 S2
        | .ret u S2 => .ret u S2
        | .exc c u e S2 => .exc c u e S2
        | .stuck => .stuck
def sFor (dj : Den J) (g : DG) (b : DS) : DS := fun env S => (dj env S).toS env fun j S1 => forL g b j (j.len S1 + 1) 0 env S1
theorem ds_for {tg iter : Expr} {body : List Stmt} {pos : Pos} {dj : Den J} {sl : List Nat} {g : DG} {b : DS} (hp : PassesOwn (model X.prog X.w) X.A X.env X.xe) (hc : X.calm = true) (hi : PI X tg iter (TDi C dj)) (hg : PG X tg (TDg C sl g)) (hb : PSs X body (TDS C b)) (hs : isSet iter = false) :
    PS X (.For tg iter body [] pos) (TDS C (sFor dj g b)) :=
  (ps_for hp hc hi hg hb (set_plain hs)).imp fun D σ H h => by
    obtain ⟨ρ, env, S, h1, h2, hp⟩ := h
    refine ⟨ρ, env, S, h1, h2, Post.mono (PostS.of h1 h2 hp) fun j S1 ρ1 H1 e s ⟨a1, b1, c1⟩ Jt G ok hG => ?_⟩
    refine ⟨fun i m σ2 H2 => ∃ ρ2 env2 S2, Rσ C.K ρ2 H2 env2 σ2 ∧ C.Z ρ2 H2 S2 ∧ G ρ2 H2 ∧ PostS C (forL g b j m i env2 S2) ρ2 H2 D, ⟨_, ρ1, env, S1, a1, b1, hG, c1⟩, ?_⟩
    rintro i m σ2 H2 ⟨ρ2, env2, S2, r2, z2, g2, p2⟩
    cases m with
    | zero => exact p2.elim
    | succ m =>
      unfold forL at p2
      cases q : j.at S2 i with
      | none => simp only [q] at p2; exact p2.elim
      | some o =>
        cases o with
        | none =>
          simp only [q] at p2
          exact .inl ⟨ok.stop i ρ2 H2 S2 z2 g2 q, p2 ρ2 H2 σ2 Ext.refl z2 r2⟩
        | some u =>
          simp only [q] at p2
          obtain ⟨go, yl⟩ := ok.go i ρ2 H2 S2 u z2 g2 q
          refine .inr ⟨go, fun σ3 H3 => ∃ ρ3 env3 S3, Rσ C.K ρ3 H3 env3 σ3 ∧ C.Z ρ3 H3 S3 ∧ G ρ3 H3 ∧ PostS C (forL g b j m (i + 1) env3 S3) ρ3 H3 D, fun σ' H' hw => ⟨m, Nat.lt_succ_self m, hw⟩, fun x H' hy => ?_⟩
          obtain ⟨ex, z3, hu⟩ := yl x H' hy
          have g3 := ok.keep _ _ _ _ _ z2 ex g2
          refine ⟨ρ2, env2, S2, u, r2.ext z2 ex, z3, hu, ?_⟩
          cases q2 : g u env2 S2 with
          | stuck => simp only [q2] at p2; exact p2.elim
          | ok e1 S1' =>
            simp only [q2] at p2
            refine fun ρ4 H4 ex4 z4 σ4 r4 _ _ => ⟨ρ4, e1, S1', r4, z4, ?_⟩
            have g4 := ok.keep _ _ _ _ _ z3 ex4 g3
            have ex5 := ex.trans ex4
            cases q3 : b e1 S1' with
            | nx e2 S2' =>
              simp only [q3] at p2
              exact fun ρ5 H5 σ5 ex6 z5 r5 => ⟨ρ5, e2, S2', r5, z5, ok.keep _ _ _ _ _ z4 ex6 g4, PostS.ext p2 (ex5.trans ex6)⟩
            | ct e2 S2' =>
              simp only [q3] at p2
              exact fun ρ5 H5 σ5 ex6 z5 r5 => ⟨ρ5, e2, S2', r5, z5, ok.keep _ _ _ _ _ z4 ex6 g4, PostS.ext p2 (ex5.trans ex6)⟩
            | brk e2 S2' =>
              simp only [q3] at p2
              exact fun ρ5 H5 σ5 ex6 z5 r5 => p2 ρ5 H5 σ5 (ex5.trans ex6) z5 r5
            | ret w S2' =>
              simp only [q3] at p2
              exact fun ρ5 H5 v ex6 z5 r5 => p2 ρ5 H5 v (ex5.trans ex6) z5 r5
            | exc c w e2 S2' =>
              simp only [q3] at p2
              exact fun ρ5 H5 σ5 ex6 z5 r5 => p2 ρ5 H5 σ5 (ex5.trans ex6) z5 r5
            | stuck => simp only [q3] at p2; exact p2.elim

/-! ### while -/
def whileL (c : Den U) (b : DS) : Nat → Evn → Sto → SR
  | 0, _, _ => .stuck
  | n + 1, env, S => (dB c env S).toS env fun k S1 => if k then (match b env S1 with
      | .nx e2 S2 => whileL c b n e2 S2
      | .ct e2 S2 => whileL c b n e2 S2
      | .brk e2 S2 => .nx e2 S2
      | .ret u S2 => .ret u S2
      | .exc c u e S2 => .exc c u e S2
      | .stuck => .stuck) else .nx env S1
theorem ds_while {c : Expr} {body : List Stmt} {pos : Pos} {dc : Den U} {b : DS} {F : Nat} (hp : PassesOwn (model X.prog X.w) X.A X.env X.xe) (hc : PT X c (TDb C (dB dc))) (hb : PSs X body (TDS C b)) : PS X (.While c body [] pos) (TDS C (whileL dc b F)) :=
  (ps_while hp hc hb).imp fun D σ H h => by
    obtain ⟨ρ, env, S, h1, h2, hp⟩ := h
    refine ⟨fun m σ2 H2 => ∃ ρ2 env2 S2, Rσ C.K ρ2 H2 env2 σ2 ∧ C.Z ρ2 H2 S2 ∧ PostS C (whileL dc b m env2 S2) ρ2 H2 D, ⟨F, ρ, env, S, h1, h2, hp⟩, ?_⟩
    rintro m σ2 H2 ⟨ρ2, env2, S2, r2, z2, p2⟩
    cases m with
    | zero => exact p2.elim
    | succ m =>
      unfold whileL at p2
      refine ⟨ρ2, env2, S2, r2, z2, Post.mono (PostS.of r2 z2 p2) fun k S3 ρ3 H3 e3 z3 ⟨r3, _, p3⟩ => ?_⟩
      cases k with
      | false => exact p3 ρ3 H3 σ2 Ext.refl z3 r3
      | true =>
        refine ⟨fun σ3 H3 => ∃ ρ3 env3 S3, Rσ C.K ρ3 H3 env3 σ3 ∧ C.Z ρ3 H3 S3 ∧ PostS C (whileL dc b m env3 S3) ρ3 H3 D, fun σ' H' hw => ⟨m, Nat.lt_succ_self m, hw⟩, ρ3, env2, S3, r3, z3, ?_⟩
        simp only [if_true] at p3
        cases q3 : b env2 S3 with
        | nx e2 S2' =>
          simp only [q3] at p3
          exact fun ρ5 H5 σ5 ex6 z5 r5 => ⟨ρ5, e2, S2', r5, z5, PostS.ext p3 ex6⟩
        | ct e2 S2' =>
          simp only [q3] at p3
          exact fun ρ5 H5 σ5 ex6 z5 r5 => ⟨ρ5, e2, S2', r5, z5, PostS.ext p3 ex6⟩
        | brk e2 S2' =>
          simp only [q3] at p3
          exact fun ρ5 H5 σ5 ex6 z5 r5 => p3 ρ5 H5 σ5 ex6 z5 r5
        | ret w S2' =>
          simp only [q3] at p3
          exact fun ρ5 H5 v ex6 z5 r5 => p3 ρ5 H5 v ex6 z5 r5
        | exc c w e2 S2' =>
          simp only [q3] at p3
          exact fun ρ5 H5 σ5 ex6 z5 r5 => p3 ρ5 H5 σ5 ex6 z5 r5
        | stuck => simp only [q3] at p3; exact p3.elim

/-! ### iterables -/
theorem iok_lst (hK : X.K = C.K) {l : Nat} {a : Addr} : Iok C (.lst l) (Itl X.K a) (fun ρ _ => ρ[l]? = some a) where
  keep := fun ρ H S ρ' H' z e g => e.get g
  out := fun _ _ _ _ _ _ _ _ _ g => g
  go := fun i ρ H S u z g q => by
    simp only [J.at] at q
    split at q
    · rename_i us e0
      have hu : C.U ρ H (.loc l) (.ref a) := ⟨a, g, rfl⟩
      obtain ⟨p, vs, e1, _, t, r⟩ := rU_seq z hu (seqAt_or e0)
      cases e1
      have q' : us[i]? = some u := by simpa using q
      obtain ⟨v, hv, ru⟩ := r.get q'
      refine ⟨⟨vs, v, hK ▸ t, hv⟩, fun x H' hy => ?_⟩
      obtain ⟨rfl, hx⟩ := hy
      have := hx vs (hK ▸ t)
      rw [hv] at this; cases this
      exact ⟨Ext.refl, z, ru⟩
    · cases q
  stop := fun i ρ H S z g q => by
    simp only [J.at] at q
    split at q
    · rename_i us e0
      have hu : C.U ρ H (.loc l) (.ref a) := ⟨a, g, rfl⟩
      obtain ⟨p, vs, e1, _, t, r⟩ := rU_seq z hu (seqAt_or e0)
      cases e1
      have q' : us[i]? = none := by simpa using q
      exact ⟨vs, hK ▸ t, by rw [← r.length]; exact List.getElem?_eq_none_iff.mp q'⟩
    · cases q
theorem iok_tup (hK : X.K = C.K) {us : List U} {vs : List V} {a : Addr} : Iok C (.vals us) (Itt X.K a) (fun ρ H => SqT C.K H a vs ∧ RUs C.K ρ H us vs) where
  keep := fun ρ H S ρ' H' z e g => ⟨SqT_ext z e g.1, RUs.ext z e _ _ g.2⟩
  out := fun _ _ _ _ _ _ _ hD _ g => ⟨SqT_out hD g.1, RUs.out hD _ _ g.2⟩
  go := fun i ρ H S u z g q => by
    have q' : us[i]? = some u := by simpa [J.at] using q
    obtain ⟨v, hv, ru⟩ := g.2.get q'
    refine ⟨⟨vs, v, hK ▸ g.1, hv⟩, fun x H' hy => ?_⟩
    obtain ⟨rfl, hx⟩ := hy
    have := hx vs (hK ▸ g.1)
    rw [hv] at this; cases this
    exact ⟨Ext.refl, z, ru⟩
  stop := fun i ρ H S z g q => by
    have q' : us[i]? = none := by simpa [J.at] using q
    exact ⟨vs, hK ▸ g.1, by rw [← g.2.length]; exact List.getElem?_eq_none_iff.mp q'⟩
theorem iok_str {a : List Nat} : Iok C (.vals (a.map fun c => .str [c])) (Its (mkS a)) (fun _ _ => True) where
  keep := fun _ _ _ _ _ _ _ _ => trivial
  out := fun _ _ _ _ _ _ _ _ _ _ => trivial
  go := fun i ρ H S u z g q => by
    have q' : (a.map fun c => U.str [c])[i]? = some u := by simpa [J.at] using q
    rw [List.getElem?_map] at q'
    cases e : a[i]? with
    | none => rw [e] at q'; cases q'
    | some c =>
      rw [e] at q'; cases q'
      have hi := (List.getElem?_eq_some_iff.mp e).1
      refine ⟨by show i < (mkS a).cps.size; simpa [mkS] using hi, fun x H' hy => ?_⟩
      obtain ⟨rfl, c', e1, rfl⟩ := hy
      have e3 : (mkS a).cps[i]? = a[i]? := by simp [mkS]
      rw [e3, e] at e1; cases e1
      exact ⟨Ext.refl, z, rfl⟩
  stop := fun i ρ H S z g q => by
    have q' : (a.map fun c => U.str [c])[i]? = none := by simpa [J.at] using q
    rw [List.getElem?_eq_none_iff, List.length_map] at q'
    show (mkS a).cps.size ≤ i
    simpa [mkS] using q'
def rngL (lo : Int) (n : Nat) : List U := (List.range n).map fun i => .int (lo + (i : Nat))
theorem rngL_get {lo : Int} {n i : Nat} : (rngL lo n)[i]? = if i < n then some (.int (lo + (i : Nat))) else none := by
  unfold rngL
  rw [List.getElem?_map]
  split
  · rename_i h; rw [List.getElem?_range h]; rfl
  · rename_i h
    rw [List.getElem?_eq_none (by simpa using h)]; rfl
theorem iok_rng {lo : Int} {n : Nat} : Iok C (.vals (rngL lo n)) (Itr lo n) (fun _ _ => True) where
  keep := fun _ _ _ _ _ _ _ _ => trivial
  out := fun _ _ _ _ _ _ _ _ _ _ => trivial
  go := fun i ρ H S u z g q => by
    have q' : (rngL lo n)[i]? = some u := by simpa [J.at] using q
    rw [rngL_get] at q'
    split at q'
    · rename_i h; cases q'
      refine ⟨h, fun x H' hy => ?_⟩
      obtain ⟨rfl, rfl⟩ := hy
      exact ⟨Ext.refl, z, rfl⟩
    · cases q'
  stop := fun i ρ H S z g q => by
    have q' : (rngL lo n)[i]? = none := by simpa [J.at] using q
    rw [rngL_get] at q'
    split at q'
    · cases q'
    · rename_i h; exact Nat.not_lt.mp h
/-- a value that is walked -/
def asJ : U → Sto → R J
  | .tup us, S => .ok (.vals us) S
  | .str a, S => .ok (.vals (a.map fun c => .str [c])) S
  | .loc l, S => match seqAt S l with
    | some _ => .ok (.lst l) S
    | none => .stuck
  | _, _ => .stuck
end
end Bq

set_option linter.all false
set_option maxRecDepth 100000
set_option maxHeartbeats 4000000
namespace Bq
open PySem
open PySem.Spec
open PyProof.Rows
open L2
/-! ### enumerate over a list or a tuple, from any start -/
def SqK (b : Bool) (K : PySem.W.Frag) (H : Hp) (a : Addr) (xs : List V) : Prop := if b then SqL K H a xs else SqT K H a xs
def ItIs (b : Bool) (h : Heap) (it a : Addr) (i : Nat) : Prop := if b then h.IsListIter it a i else h.IsTupleIter it a i
def SeqIs (b : Bool) (h : Heap) (a : Addr) (its : Array Value) : Prop := if b then h.IsList a its else h.IsTuple a its
def itObj (b : Bool) (a : Addr) : Obj := if b then { cls := .type "list_iterator", data := .fields #[.ref a, .int 0 0] } else { cls := .type "tuple_iterator", data := .fields #[.ref a, .int 0 0] }
theorem begK (b : Bool) (a : Addr) (its : Array Value) : Begins (.ref a) (itObj b a) fun h => SeqIs b h a its := by
  cases b
  · exact begins_tuple a its
  · exact begins_list a its
theorem drawsK {prog : Program} {w : World} {A : Around} (hh : A.handled = none) (b : Bool) (it a : Addr) (hne : a ≠ it) (its : Array Value) : Draws prog w A it [it, a] its.size (fun i v => its[i]? = some v) (fun i h => ItIs b h it a i ∧ SeqIs b h a its) := by
  cases b
  · exact Draws.tuple hh it a hne its
  · exact Draws.list hh it a hne its
theorem ItIs.rec_ {b : Bool} {h : Heap} {it a : Addr} {i : Nat} (x : ItIs b h it a i) : ∃ o, h.get? it = some o ∧ ∀ v, o.data ≠ .cell v := by
  cases b
  · obtain ⟨o, e, _, d⟩ := (show h.IsTupleIter it a i from x); exact ⟨o, e, fun v z => by rw [d] at z; cases z⟩
  · obtain ⟨o, e, _, d⟩ := (show h.IsListIter it a i from x); exact ⟨o, e, fun v z => by rw [d] at z; cases z⟩
theorem ItIs.move {b : Bool} {h h' : Heap} {it a : Addr} {i : Nat} (x : ItIs b h it a i) (k : ∀ o, h.get? it = some o → h'.get? it = some o) : ItIs b h' it a i := by
  cases b
  · exact (show h.IsTupleIter it a i from x).at fun o e => k o e
  · exact (show h.IsListIter it a i from x).at fun o e => k o e
theorem itObj_is (b : Bool) {h : Heap} {it a : Addr} (e : h.get? it = some (itObj b a)) : ItIs b h it a 0 := by
  cases b
  · exact (⟨_, e, rfl, rfl⟩ : h.IsTupleIter it a 0)
  · exact (⟨_, e, rfl, rfl⟩ : h.IsListIter it a 0)
section
variable {X : Cx} {pins : List (Addr × Obj)} {σ : L2.St} {H : Hp} {s : Shared} {a : Addr} {xs ys : List V} {b : Bool}
theorem seqK_of (I : Inv X pins σ H s) (h : SqK b X.K H a xs) : ∃ its : List Value, Vals xs its ∧ SeqIs b s.heap a its.toArray ∧ a < s.heap.objs.size := by
  cases b
  · obtain ⟨its, r, p, _⟩ := I.tuple (show SqT X.K H a xs from h)
    obtain ⟨o, e, _⟩ := id p
    exact ⟨its, r, p, Heap.lt_size e⟩
  · obtain ⟨its, r, p, _⟩ := I.list (show SqL X.K H a xs from h)
    exact ⟨its, r, p.isList, p.lt⟩
theorem seqK_inj (I : Inv X pins σ H s) (h : SqK b X.K H a xs) (h' : SqK b X.K H a ys) : xs = ys := by
  cases b
  · exact I.tuple_inj h h'
  · exact I.list_inj h h'
end
def ItEn (b : Bool) (K : PySem.W.Frag) (k : Int) (a : Addr) : It where
  go := fun i H => ∃ (xs : List V) (x : V), SqK b K H a xs ∧ xs[i]? = some x
  yld := fun i H v H' => ∃ T x, v = .ref T ∧ H T = none ∧ H' = upd H T (.tup [.int (k + (i : Nat)), x]) ∧ ∀ xs, SqK b K H a xs → xs[i]? = some x
  stop := fun i H => ∃ xs : List V, SqK b K H a xs ∧ xs.length ≤ i
theorem turn_en {P : Program} {w : World} {K : PySem.W.Frag} {elts : List Expr} {kk : Nat} {tpos : Pos} {b : Bool} {k : Int} {a e it : Addr} :
    Turn P w K (.Tuple elts kk tpos) (ItEn b K k a) [e, it] e (fun i h => (∃ old, IsEnum h e it (k + (i : Nat)) old) ∧ ItIs b h it a i ∧ e ≠ it ∧ a ≠ it ∧ a ≠ e ∧ a < it ∧ a < e) := by
  refine ⟨by simp, fun i h st c hc => ?_, fun i h h' st kp => ?_, ?_, ?_, fun A i s Q E st hq => by obtain ⟨⟨_, he⟩, _⟩ := st; exact wpAny_pyIter_enum he hq⟩
  · obtain ⟨⟨old, he⟩, hit, _⟩ := st
    rcases (by simpa using hc : c = e ∨ c = it) with rfl | rfl
    · exact ⟨_, he, fun v q => nomatch q⟩
    · exact hit.rec_
  · obtain ⟨⟨old, he⟩, hit, r⟩ := st
    exact ⟨⟨old, kp e (by simp) _ he⟩, hit.move fun o q => kp it (by simp) o q, r⟩
  · rintro X rfl rfl rfl hc i pins s σ H E I hf ⟨⟨old, he⟩, hit, n1, n2, n3, n4, n5⟩ ⟨xs, x, hq, hx⟩
    obtain ⟨its, rv, sq, hlt⟩ := seqK_of I hq
    obtain ⟨u, hu, ru⟩ := rv.get hx
    have hlen : i < its.toArray.size := by have := (List.getElem?_eq_some_iff.mp hu).1; simpa using this
    have hel : e < s.heap.objs.size := Heap.lt_size he
    have hil : it < s.heap.objs.size := by obtain ⟨o, q, _⟩ := hit.rec_; exact Heap.lt_size q
    have D : Draws X.prog X.w X.A.in1 it [it, a] its.toArray.size _ _ := drawsK (show X.A.in1.handled = none from I.ok.hd hc) b it a n2 its.toArray
    refine wpAny_pyNext_enum_itemC D he ⟨hit, sq⟩ hlen n1 (by simp [n1, Ne.symm n3]) fun z h' tk hz ho hst' hT hsz kp => ?_
    have hzu : z = u := by
      have e1 : its.toArray[i]? = some z := hz
      have e2 : its.toArray[i]? = some u := by simpa using hu
      rw [e1] at e2; exact Option.some.inj e2
    subst hzu
    refine ⟨_, rfl, wpAny_letOwnedTupleGo_enum (s := { s with heap := h', toks := tk + 1 }) ho fun h2 he2 sb => ?_⟩
    have hT2 := (sb.2 _ (Nat.ne_of_gt hel)).trans hT
    have new : ObjOk X.prog X.w (upd H s.heap.objs.size (.tup [.int (k + (i : Nat)), x])) h2 s.heap.objs.size (.tup [.int (k + (i : Nat)), x]) :=
      ⟨by show 2 ≤ sizeLine; decide, [.int (k + (i : Nat)) tk, z], .cons ⟨tk, rfl⟩ (.cons ru .nil), _, hT2, rfl, _, rfl⟩
    have J := I.turnedNew (t' := tk + 1) (ch := [e, it]) (h' := h2) (fun c ob hb q => (sb.2 c (fun z => hb (by simp [z]))).trans (kp c ob (fun z => hb (by simp [z])) (fun z => hb (by simp [z])) q)) hf (Nat.le_refl _) new
    refine ⟨.ref s.heap.objs.size, _, J, rfl, ⟨_, x, rfl, I.hok.fresh (Nat.le_refl _), rfl, fun l hl => by rw [seqK_inj I hl hq]; exact hx⟩, ⟨⟨z, ?_⟩, hst'.1.move fun o q => (sb.2 it (Ne.symm n1)).trans q, n1, n2, n3, n4, n5⟩, fun c hcm => ?_⟩
    · have e1 : k + ((i + 1 : Nat) : Int) = k + (i : Nat) + 1 := by omega
      rw [e1]; exact he2
    · have hb' : c < s.heap.objs.size := by
        rcases (by simpa using hcm : c = e ∨ c = it) with rfl | rfl
        · exact hel
        · exact hil
      rw [upd_ne (Nat.ne_of_lt hb')]
      exact (hf c hcm).1
  · rintro X rfl rfl rfl hc i pins s σ H E I hf ⟨⟨old, he⟩, hit, n1, n2, n3, n4, n5⟩ ⟨xs, hq, hx⟩
    obtain ⟨its, rv, sq, hlt⟩ := seqK_of I hq
    have hl := rv.length
    -- behind the items: the iterator's own end
    have fin : ∀ h', Heap.ExtBut it s.heap h' → (none : Option Value) = none ∧ Inv X pins σ H { s with heap := h' } := fun h' eb => ⟨rfl, I.turnedL (t' := s.toks) (ch := [e, it]) (fun c o hb q => eb c o (fun z => hb (by simp [z])) q) hf⟩
    by_cases hi : i = its.toArray.size
    · subst hi
      have D : Draws X.prog X.w X.A.in1 it [it, a] its.toArray.size _ _ := drawsK (show X.A.in1.handled = none from I.ok.hd hc) b it a n2 its.toArray
      exact wpAny_pyNext_enum_endD D he ⟨hit, sq⟩ fun h' eb => fin h' eb
    · -- more turns than items: the source has become shorter; as for a list
      cases b
      · have D : Draws X.prog X.w X.A.in1 it [it, a] i (fun _ _ => False) (fun j h => j = i ∧ ItIs false h it a i ∧ SeqIs false h a its.toArray) := by
          refine ⟨fun j h st => ?_, fun j h h' st kk => ⟨st.1, st.2.1.move fun o q => kk it (by simp) o q, (show h.IsTuple a _ from st.2.2).at fun o q => kk a (by simp) o q⟩, fun j s' Q E' hj st => ?_, fun s' Q E' st hE => ?_⟩
          · obtain ⟨o, q, _⟩ := st.2.1.rec_; exact ⟨o, q⟩
          · exact absurd st.1 (by omega)
          · exact wpAny_nextOf_tuple_end (show X.A.in1.handled = none from I.ok.hd hc) st.2.1 st.2.2 (by simp at hi ⊢; omega) fun h' x he' hx' => hE h' x he' hx'
        exact wpAny_pyNext_enum_endD D he ⟨rfl, hit, sq⟩ fun h' eb => fin h' eb
      · have D : Draws X.prog X.w X.A.in1 it [it, a] i (fun _ _ => False) (fun j h => j = i ∧ ItIs true h it a i ∧ SeqIs true h a its.toArray) := by
          refine ⟨fun j h st => ?_, fun j h h' st kk => ⟨st.1, st.2.1.move fun o q => kk it (by simp) o q, (show h.IsList a _ from st.2.2).at fun o q => kk a (by simp) o q⟩, fun j s' Q E' hj st => ?_, fun s' Q E' st hE => ?_⟩
          · obtain ⟨o, q, _⟩ := st.2.1.rec_; exact ⟨o, q⟩
          · exact absurd st.1 (by omega)
          · exact wpAny_nextOf_list_end (show X.A.in1.handled = none from I.ok.hd hc) st.2.1 st.2.2 (by simp at hi ⊢; omega) fun h' x he' hx' => hE h' x he' hx'
        exact wpAny_pyNext_enum_endD D he ⟨rfl, hit, sq⟩ fun h' eb => fin h' eb
end Bq

set_option linter.all false
set_option maxRecDepth 100000
set_option maxHeartbeats 4000000
namespace Bq
open PySem
open PySem.Spec
open PyProof.Rows
open L2
/-- the cell of an enumerate that counts from k over the iterator at i -/
abbrev enCell (i : Addr) (k : Int) : Obj := { cls := .type "enumerate", data := .fields #[.none, .bool false, .ref i, rawInt k, .none, .none] }
theorem en_one {v : Value} {o : Obj} {G : Heap → Prop} (B : Begins v o G) : Meets (Builtin.«enumerate.__new__» ⟨[.type "enumerate", v], []⟩) fun _ R s => G s.heap ∧ R (.ok (.ret (.ref (s.heap.push o).objs.size))) { s with heap := (s.heap.push o).push (enCell s.heap.objs.size 0) } := by
  refine .of_wp fun prog w A R s hs => ?_
  obtain ⟨hp, gg, dd, tk, os⟩ := s
  obtain ⟨h1, hr⟩ := hs
  have sub := sub_enumerate
  have step : ∀ {A2 : Around} {E2 Q2 : Value → Shared → Prop}, Q2 (.ref hp.objs.size) ⟨hp.push o, gg, dd, tk, os⟩ → wpAny (model prog w) A2 (pyIter v) Q2 E2 ⟨hp, gg, dd, tk, os⟩ := fun z => B.iter _ _ _ _ ⟨hp, gg, dd, tk, os⟩ _ h1 z
  wp_walk using step
  refine wpAny_stack_any fun fr => wpAny_pure ?_
  split
  · rename_i c _ _ _ _ _
    cases (c == Value.type "enumerate") <;> (wp_walk using step; exact ⟨_, rfl, hr⟩)
  · wp_walk using step
    exact ⟨_, rfl, hr⟩
section
variable {prog : Program} {w : World} {A : Around} {E : Value → Shared → Prop} {s : Shared}
theorem en_call {v : Value} {o : Obj} {G : Heap → Prop} {Q : Value → Shared → Prop} (B : Begins v o G) (h1 : G s.heap)
    (hq : Q (.ref (s.heap.objs.size + 1)) { s with heap := (s.heap.push o).push (enCell s.heap.objs.size 0) }) : wpAny (model prog w) A (call (.type "enumerate") [v]) Q E s := by
  have sz : (s.heap.push o).objs.size = s.heap.objs.size + 1 := Heap.size_push ..
  refine callType_new F.called_enumerate (by decide) (F.typeCall_enumerate_1 _) (F.newCall_enumerate_1 _) (fun ob => F.args_object_init_2 ob _) F.entry_enumerate_new (en_one B) ⟨h1, ?_⟩
  show _ ∧ _
  rw [sz]
  refine ⟨⟨enCell s.heap.objs.size 0, ?_, rfl⟩, hq⟩
  have := Heap.get?_push_size (s.heap.push o) (o := enCell s.heap.objs.size 0) rfl
  rw [sz] at this
  exact this
end
section
variable {X : Cx} {C : Cn} {tg : Expr}
/-! ### what stands behind 'in' -/
def iAny (K : PySem.W.Frag) (te : TE) : TI := fun σ H R => te σ H fun x H1 => (∃ a xs, x = .ref a ∧ SqL K H1 a xs ∧ R (Itl K a) H1) ∨ (∃ a xs, x = .ref a ∧ SqT K H1 a xs ∧ R (Itt K a) H1) ∨ ∃ z, x = .str z ∧ R (Its z) H1
theorem pi_any {e : Expr} {te : TE} (he : PE X e te) : PI X tg e (iAny X.K te) := by
  constructor
  intro pins s σ H R I h
  refine wpAny_mono (he.run pins s σ H _ I h) (fun v s1 hh => ?_) fun _ _ z => z
  obtain ⟨x, H1, J, rx, q⟩ := hh
  rcases q with ⟨a, xs, rfl, hq, q⟩ | ⟨a, xs, rfl, hq, q⟩ | ⟨z, rfl, q⟩
  · cases rx
    obtain ⟨its, _, pl, _⟩ := J.list hq
    exact wpAny_pyIter_list pl.isList (pi_one (tk := s1.toks) J { cls := .type "list_iterator", data := .fields #[.ref a, .int 0 0] } (turn_list a _) ⟨_, Heap.get?_push_size _ rfl, rfl, rfl⟩ q)
  · cases rx
    obtain ⟨its, _, pt, _⟩ := J.tuple hq
    exact wpAny_pyIter_tuple (show s1.heap.IsTuple a its.toArray from pt) (pi_one (tk := s1.toks) J { cls := .type "tuple_iterator", data := .fields #[.ref a, .int 0 0] } (turn_tuple a _) ⟨_, Heap.get?_push_size _ rfl, rfl, rfl⟩ q)
  · obtain ⟨t, rfl⟩ := rx
    by_cases ha : z.cps.all (· < 128) = true
    · exact wpAny_pyIter_ascii ha (pi_one (tk := s1.toks) J { cls := .type "str_ascii_iterator", data := .fields #[.str z t, .int 0 0] } (turn_str _ z t _ (.inl rfl)) ⟨_, Heap.get?_push_size _ rfl, rfl, rfl⟩ q)
    · exact wpAny_pyIter_wide (Bool.not_eq_true _ ▸ ha) (pi_one (tk := s1.toks) J { cls := .type "str_iterator", data := .fields #[.str z t, .int 0 0] } (turn_str _ z t _ (.inr rfl)) ⟨_, Heap.get?_push_size _ rfl, rfl, rfl⟩ q)
def jSeq (d : Den U) : Den J := fun env S => (d env S).bind asJ
theorem TDi.go {d : Den J} {ρ : List Addr} {env : Evn} {S : Sto} {σ : L2.St} {H : Hp} {R : It → Hp → Prop} (h1 : Rσ C.K ρ H env σ) (h2 : C.Z ρ H S)
    (h : Post C (d env S) ρ H σ fun j S' ρ' H' => ∀ Jt G, Iok C j Jt G → G ρ' H' → R Jt H') : TDi C d σ H R := ⟨ρ, env, S, h1, h2, h⟩
theorem di_seq (hK : X.K = C.K) {e : Expr} {d : Den U} (he : PE X e (TD C d)) : PI X tg e (TDi C (jSeq d)) := (pi_any he).imp fun σ H R h => by
  obtain ⟨ρ, env, S, h1, h2, hp⟩ := h
  refine TD.of h1 h2 (Post.mono (Post.bind hp) fun u S1 ρ1 H1 e1 s1 k1 _ _ x hx => ?_)
  cases u with
  | tup us =>
    obtain ⟨a, vs, rfl, t, r⟩ := rU_tup hx
    exact .inr (.inl ⟨a, vs, rfl, hK ▸ t, k1.here s1 _ _ (iok_tup hK) ⟨t, r⟩⟩)
  | str z => exact .inr (.inr ⟨_, rU_str hx, k1.here s1 _ _ iok_str trivial⟩)
  | loc l =>
    obtain ⟨a, e0, rfl⟩ := (hx : ∃ a, ρ1[l]? = some a ∧ x = .ref a)
    cases hs : seqAt S1 l with
    | none => simp only [asJ, hs] at k1; exact k1.elim
    | some us =>
      simp only [asJ, hs] at k1
      obtain ⟨p, vs, e2, _, t, r⟩ := rU_seq s1 (show C.U ρ1 H1 (.loc l) (.ref a) from ⟨a, e0, rfl⟩) (seqAt_or hs)
      cases e2
      exact .inl ⟨a, vs, rfl, hK ▸ t, k1.here s1 _ _ (iok_lst hK) e0⟩
  | _ => exact k1.elim
end
end Bq

set_option linter.all false
set_option maxRecDepth 100000
set_option maxHeartbeats 4000000
namespace Bq
open PySem
open PySem.Spec
open PyProof.Rows
open L2
section
variable {X : Cx} {C : Cn} {tg : Expr}
def iEn (K : PySem.W.Frag) (ta : TA) : TI := fun σ H R => ta σ H fun vs H1 => ∃ (b : Bool) (a : Addr) (xs : List V) (k : Int), ((vs = [.ref a] ∧ k = 0) ∨ vs = [.ref a, .int k]) ∧ -(2 ^ 63) ≤ k ∧ k < 2 ^ 63 ∧ SqK b K H1 a xs ∧ R (ItEn b K k a) H1
theorem en_laid {pins : List (Addr × Obj)} {σ : L2.St} {H : Hp} {s : Shared} {R : It → Hp → Prop} {elts : List Expr} {kk : Nat} {tpos : Pos} {b : Bool} {a : Addr} {xs : List V} {k : Int} {h' : Heap} (I : Inv X pins σ H s) (hq : SqK b X.K H a xs)
    (he : IsEnum h' (s.heap.objs.size + 1) s.heap.objs.size k .none) (hi : h'.get? s.heap.objs.size = some (itObj b a)) (kp : ∀ c o, s.heap.get? c = some o → h'.get? c = some o) (q : R (ItEn b X.K k a) H) :
    PIE X pins σ (.Tuple elts kk tpos) R (.ref (s.heap.objs.size + 1)) { s with heap := h' } := by
  obtain ⟨_, _, _, hlt⟩ := seqK_of I hq
  refine ⟨s.heap.objs.size + 1, [s.heap.objs.size + 1, s.heap.objs.size], _, _, H, rfl, I.kept (t' := s.toks) kp, turn_en, ⟨⟨.none, by simpa using he⟩, itObj_is b hi, Nat.succ_ne_self _, Nat.ne_of_lt hlt, Nat.ne_of_lt (Nat.lt_succ_of_lt hlt), hlt, Nat.lt_succ_of_lt hlt⟩, fun c hc => ?_, q⟩
  have hle : s.heap.objs.size ≤ c := by
    rcases (by simpa using hc : c = s.heap.objs.size + 1 ∨ c = s.heap.objs.size) with rfl | rfl
    · exact Nat.le_succ _
    · exact Nat.le_refl _
  exact I.fpOk hle (I.hok.fresh hle)
theorem pi_en {e : Expr} {es : List Expr} {ta : TA} {p pos tpos : Pos} {elts : List Expr} {kk : Nat} (hg : Gl X "enumerate") (hm : X.mg "enumerate" = none) (ha : PA X (e :: es) ta) (hns : (e :: es).all (fun e => !starred e) = true) :
    PI X (.Tuple elts kk tpos) (.Call (.Name "enumerate" p) (e :: es) [] pos) (iEn X.K ta) := by
  have n1 : starred e = false := by rw [List.all_cons, Bool.and_eq_true] at hns; simpa using hns.1
  have n2 : es.all (fun e => !starred e) = true := by rw [List.all_cons, Bool.and_eq_true] at hns; exact hns.2
  constructor
  intro pins s σ H R I h
  have run := wpAny_mono (ha.run pos pins s σ H _ I h) (Q' := fun us s1 => wpAny (model X.prog X.w) X.A (call (.type "enumerate") us) (fun v s2 => wpAny (model X.prog X.w) X.A (pyIter v) (PIE X pins σ (.Tuple elts kk tpos) R) X.xe s2) X.xe s1) (fun us s1 hh => ?_) (E' := X.xe) (fun _ _ z => z)
  · exact Call_ (ld_blt I hg hm boot_enumerate (PyProof.Rows.callWith_type1 run (starEach_cons n1) (back_any n2)))
  · obtain ⟨vs, H1, J, rv, b, a, xs, k, hv, k0, k1, hq, q⟩ := hh
    obtain ⟨its, _, sq, hlt⟩ := seqK_of J hq
    rcases hv with ⟨rfl, rfl⟩ | rfl
    · obtain ⟨u, rfl, ru⟩ := L2.vals1 rv
      cases ru
      refine en_call (begK b a its.toArray) sq ?_
      have hz : (s1.heap.push (itObj b a)).objs.size = s1.heap.objs.size + 1 := Heap.size_push ..
      have he : IsEnum ((s1.heap.push (itObj b a)).push (enCell s1.heap.objs.size 0)) (s1.heap.objs.size + 1) s1.heap.objs.size 0 .none := by
        have := Heap.get?_push_size (s1.heap.push (itObj b a)) (o := enCell s1.heap.objs.size 0) rfl
        rw [hz] at this; exact this
      refine wpAny_pyIter_enum he (en_laid J hq he (Heap.get?_push_of_some _ (Heap.get?_push_size _ (begK b a its.toArray).free)) (fun c o z => Heap.get?_push_of_some _ (Heap.get?_push_of_some _ z)) q)
    · obtain ⟨u, w, rfl, ru, rw'⟩ := L2.vals2 rv
      cases ru
      obtain ⟨t, rfl⟩ := rw'
      exact enum_begins (begK b a its.toArray) sq k0 k1 fun h' he hi hsz kp => wpAny_pyIter_enum he (en_laid J hq he hi kp q)
theorem iok_en (hK : X.K = C.K) {j : J} {b : Bool} {a : Addr} {k : Int} (G : List Addr → Hp → Prop)
    (keep : ∀ ρ H S ρ' H', C.Z ρ H S → Ext ρ H ρ' H' → G ρ H → G ρ' H')
    (out : ∀ ρ H S D vs ws, C.Z ρ H S → H D = some (.lst vs) → D ∉ ρ → G ρ H → G ρ (upd H D (.lst ws)))
    (at_ : ∀ i ρ H S o, C.Z ρ H S → G ρ H → j.at S i = some o → ∃ (us : List U) (vs : List V), SqK b C.K H a vs ∧ RUs C.K ρ H us vs ∧ us[i]? = o) : Iok C (.en k j) (ItEn b X.K k a) G where
  keep := keep
  out := out
  go := fun i ρ H S u z g q => by
    simp only [J.at] at q
    cases q0 : j.at S i with
    | none => simp only [q0] at q; cases q
    | some o =>
      cases o with
      | none => simp only [q0] at q; cases q
      | some w =>
        simp only [q0] at q; cases q
        obtain ⟨us, vs, h1, h2, h3⟩ := at_ i ρ H S _ z g q0
        obtain ⟨v, hv, rv⟩ := h2.get h3
        refine ⟨⟨vs, v, hK ▸ h1, hv⟩, fun x H' hy => ?_⟩
        obtain ⟨T, x', rfl, hT, rfl, hx⟩ := hy
        have := hx vs (hK ▸ h1)
        rw [hv] at this; cases this
        exact new_tup z (us := [.int (k + (i : Nat)), w]) ⟨_, _, rfl, rfl, _, _, rfl, rv, rfl⟩ hT
  stop := fun i ρ H S z g q => by
    simp only [J.at] at q
    cases q0 : j.at S i with
    | none => simp only [q0] at q; cases q
    | some o =>
      cases o with
      | some w => simp only [q0] at q; cases q
      | none =>
        obtain ⟨us, vs, h1, h2, h3⟩ := at_ i ρ H S _ z g q0
        exact ⟨vs, hK ▸ h1, by rw [← h2.length]; exact List.getElem?_eq_none_iff.mp h3⟩
def enJ : List U → Sto → R J
  | [.tup us], S => .ok (.en 0 (.vals us)) S
  | [.loc l], S => match seqAt S l with
    | some _ => .ok (.en 0 (.lst l)) S
    | none => .stuck
  | [.tup us, .int k], S => if Sm 9000000000000000000 k then .ok (.en k (.vals us)) S else .stuck
  | [.loc l, .int k], S => match seqAt S l with
    | some _ => if Sm 9000000000000000000 k then .ok (.en k (.lst l)) S else .stuck
    | none => .stuck
  | _, _ => .stuck
def jArgs (f : List U → Sto → R J) (ds : Den (List U)) : Den J := fun env S => (ds env S).bind f
theorem iok_enT (hK : X.K = C.K) {us : List U} {vs : List V} {a : Addr} {k : Int} : Iok C (.en k (.vals us)) (ItEn false X.K k a) (fun ρ H => SqT C.K H a vs ∧ RUs C.K ρ H us vs) :=
  iok_en hK _ (fun ρ H S ρ' H' z e g => ⟨SqT_ext z e g.1, RUs.ext z e _ _ g.2⟩) (fun _ _ _ _ _ _ _ hD _ g => ⟨SqT_out hD g.1, RUs.out hD _ _ g.2⟩) fun i ρ H S o z g q => ⟨us, vs, g.1, g.2, by simpa [J.at] using q⟩
theorem iok_enL (hK : X.K = C.K) {l : Nat} {a : Addr} {k : Int} : Iok C (.en k (.lst l)) (ItEn true X.K k a) (fun ρ _ => ρ[l]? = some a) :=
  iok_en hK _ (fun ρ H S ρ' H' z e g => e.get g) (fun _ _ _ _ _ _ _ _ _ g => g) fun i ρ H S o z g q => by
    simp only [J.at] at q
    split at q
    · rename_i us e0
      obtain ⟨p, vs, e1, _, t, r⟩ := rU_seq z (show C.U ρ H (.loc l) (.ref a) from ⟨a, g, rfl⟩) (seqAt_or e0)
      cases e1
      exact ⟨us, vs, t, r, by simpa using q⟩
    · cases q
theorem di_en (hK : X.K = C.K) {e : Expr} {es : List Expr} {ds : Den (List U)} {p pos tpos : Pos} {elts : List Expr} {kk : Nat} (hg : Gl X "enumerate") (hm : X.mg "enumerate" = none) (ha : PA X (e :: es) (TDs C ds)) (hns : (e :: es).all (fun e => !starred e) = true) :
    PI X (.Tuple elts kk tpos) (.Call (.Name "enumerate" p) (e :: es) [] pos) (TDi C (jArgs enJ ds)) := (pi_en hg hm ha hns).imp fun σ H R h => by
  obtain ⟨ρ, env, S, h1, h2, hp⟩ := h
  refine TDs.of h1 h2 (Post.mono (Post.bind hp) fun us S1 ρ1 H1 e1 s1 k1 _ _ xs hx => ?_)
  unfold enJ at k1
  split at k1
  · obtain ⟨v, rfl, r1⟩ := vals1' hx
    obtain ⟨a, vs, rfl, t, r⟩ := rU_tup r1
    exact ⟨false, a, vs, 0, .inl ⟨rfl, rfl⟩, by omega, by omega, hK ▸ t, k1.here s1 _ _ (iok_enT hK) ⟨t, r⟩⟩
  · obtain ⟨v, rfl, r1⟩ := vals1' hx
    split at k1
    · rename_i l _ _ hs
      obtain ⟨a, vs, rfl, e0, t, r⟩ := rU_seq s1 r1 (seqAt_or hs)
      exact ⟨true, a, vs, 0, .inl ⟨rfl, rfl⟩, by omega, by omega, hK ▸ t, k1.here s1 _ _ (iok_enL hK) e0⟩
    · exact k1.elim
  · obtain ⟨v, w, rfl, r1, r2⟩ := vals2' hx
    split at k1
    · rename_i hk
      have hk := hk.lt
      obtain ⟨a, vs, rfl, t, r⟩ := rU_tup r1
      cases (rU_int r2)
      exact ⟨false, a, vs, _, .inr rfl, by omega, by omega, hK ▸ t, k1.here s1 _ _ (iok_enT hK) ⟨t, r⟩⟩
    · exact k1.elim
  · obtain ⟨v, w, rfl, r1, r2⟩ := vals2' hx
    split at k1
    · rename_i hs
      split at k1
      · rename_i hk
        have hk := hk.lt
        obtain ⟨a, vs, rfl, e0, t, r⟩ := rU_seq s1 r1 (seqAt_or hs)
        cases (rU_int r2)
        exact ⟨true, a, vs, _, .inr rfl, by omega, by omega, hK ▸ t, k1.here s1 _ _ (iok_enL hK) e0⟩
      · exact k1.elim
    · exact k1.elim
  · exact k1.elim

/-! ### zip of two lists, of two tuples -/
def zpJ : List U → Sto → R J
  | [.tup us, .tup ws], S => .ok (.zp (.vals us) (.vals ws)) S
  | [.loc l, .loc m], S => match seqAt S l, seqAt S m with
    | some _, some _ => .ok (.zp (.lst l) (.lst m)) S
    | _, _ => .stuck
  | _, _ => .stuck
theorem iok_zpL (hK : X.K = C.K) {l m : Nat} {a b : Addr} : Iok C (.zp (.lst l) (.lst m)) (Itz X.K a b) (fun ρ _ => ρ[l]? = some a ∧ ρ[m]? = some b) where
  keep := fun ρ H S ρ' H' z e g => ⟨e.get g.1, e.get g.2⟩
  out := fun _ _ _ _ _ _ _ _ _ g => g
  go := fun i ρ H S u z g q => by
    simp only [J.at] at q
    cases e0 : seqAt S l with
    | none => simp only [e0] at q; cases q
    | some us => cases e1 : seqAt S m with
      | none => simp only [e0, e1] at q; cases h9 : us[i]? <;> simp only [h9] at q <;> cases q
      | some ws =>
        simp only [e0, e1] at q
        obtain ⟨p, vs, z1, _, t, r⟩ := rU_seq z (show C.U ρ H (.loc l) (.ref a) from ⟨a, g.1, rfl⟩) (seqAt_or e0)
        obtain ⟨p2, vs2, z2, _, t2, r2⟩ := rU_seq z (show C.U ρ H (.loc m) (.ref b) from ⟨b, g.2, rfl⟩) (seqAt_or e1)
        cases z1; cases z2
        cases q1 : us[i]? with
        | none => simp only [q1] at q; cases q
        | some x => cases q2 : ws[i]? with
          | none => simp only [q1, q2] at q; cases q
          | some y =>
            simp only [q1, q2] at q; cases q
            obtain ⟨v, hv, rv⟩ := r.get q1
            obtain ⟨v2, hv2, rv2⟩ := r2.get q2
            refine ⟨⟨vs, vs2, v, v2, hK ▸ t, hK ▸ t2, hv, hv2⟩, fun x' H' hy => ?_⟩
            obtain ⟨T, xx, yy, rfl, hT, rfl, hx1, hx2⟩ := hy
            have a1 := hx1 vs (hK ▸ t); rw [hv] at a1; cases a1
            have a2 := hx2 vs2 (hK ▸ t2); rw [hv2] at a2; cases a2
            exact new_tup z (us := [x, y]) ⟨_, _, rfl, rv, _, _, rfl, rv2, rfl⟩ hT
  stop := fun i ρ H S z g q => by
    simp only [J.at] at q
    cases e0 : seqAt S l with
    | none => simp only [e0] at q; cases q
    | some us => cases e1 : seqAt S m with
      | none => simp only [e0, e1] at q; cases h9 : us[i]? <;> simp only [h9] at q <;> cases q
      | some ws =>
        simp only [e0, e1] at q
        obtain ⟨p, vs, z1, _, t, r⟩ := rU_seq z (show C.U ρ H (.loc l) (.ref a) from ⟨a, g.1, rfl⟩) (seqAt_or e0)
        obtain ⟨p2, vs2, z2, _, t2, r2⟩ := rU_seq z (show C.U ρ H (.loc m) (.ref b) from ⟨b, g.2, rfl⟩) (seqAt_or e1)
        cases z1; cases z2
        refine ⟨vs, vs2, hK ▸ t, hK ▸ t2, ?_⟩
        cases q1 : us[i]? with
        | none => exact .inl (by rw [← r.length]; exact List.getElem?_eq_none_iff.mp q1)
        | some x => cases q2 : ws[i]? with
          | none => exact .inr (by rw [← r2.length]; exact List.getElem?_eq_none_iff.mp q2)
          | some y => simp only [q1, q2] at q; cases q
theorem iok_zpT (hK : X.K = C.K) {us ws : List U} {vs vs2 : List V} {a b : Addr} : Iok C (.zp (.vals us) (.vals ws)) (RZ.ItzT X.K a b) (fun ρ H => (SqT C.K H a vs ∧ RUs C.K ρ H us vs) ∧ SqT C.K H b vs2 ∧ RUs C.K ρ H ws vs2) where
  keep := fun ρ H S ρ' H' z e g => ⟨⟨SqT_ext z e g.1.1, RUs.ext z e _ _ g.1.2⟩, SqT_ext z e g.2.1, RUs.ext z e _ _ g.2.2⟩
  out := fun _ _ _ _ _ _ _ hD _ g => ⟨⟨SqT_out hD g.1.1, RUs.out hD _ _ g.1.2⟩, SqT_out hD g.2.1, RUs.out hD _ _ g.2.2⟩
  go := fun i ρ H S u z g q => by
    obtain ⟨⟨t, r⟩, t2, r2⟩ := g
    simp only [J.at] at q
    cases q1 : us[i]? with
    | none => simp only [q1] at q; cases q
    | some x => cases q2 : ws[i]? with
      | none => simp only [q1, q2] at q; cases q
      | some y =>
        simp only [q1, q2] at q; cases q
        obtain ⟨v, hv, rv⟩ := r.get q1
        obtain ⟨v2, hv2, rv2⟩ := r2.get q2
        refine ⟨⟨vs, vs2, v, v2, hK ▸ t, hK ▸ t2, hv, hv2⟩, fun x' H' hy => ?_⟩
        obtain ⟨T, xx, yy, rfl, hT, rfl, hx1, hx2⟩ := hy
        have a1 := hx1 vs (hK ▸ t); rw [hv] at a1; cases a1
        have a2 := hx2 vs2 (hK ▸ t2); rw [hv2] at a2; cases a2
        exact new_tup z (us := [x, y]) ⟨_, _, rfl, rv, _, _, rfl, rv2, rfl⟩ hT
  stop := fun i ρ H S z g q => by
    obtain ⟨⟨t, r⟩, t2, r2⟩ := g
    simp only [J.at] at q
    refine ⟨vs, vs2, hK ▸ t, hK ▸ t2, ?_⟩
    cases q1 : us[i]? with
    | none => exact .inl (by rw [← r.length]; exact List.getElem?_eq_none_iff.mp q1)
    | some x => cases q2 : ws[i]? with
      | none => exact .inr (by rw [← r2.length]; exact List.getElem?_eq_none_iff.mp q2)
      | some y => simp only [q1, q2] at q; cases q
theorem di_zp (hK : X.K = C.K) {e e2 : Expr} {ds : Den (List U)} {p pos tpos : Pos} {elts : List Expr} {kk : Nat} (hg : Gl X "zip") (hm : X.mg "zip" = none) (ha : PA X [e, e2] (TDs C ds)) (hns : [e, e2].all (fun e => !starred e) = true) :
    PI X (.Tuple elts kk tpos) (.Call (.Name "zip" p) [e, e2] [] pos) (TDi C (jArgs zpJ ds)) := by
  have n1 : starred e = false := by rw [List.all_cons, Bool.and_eq_true] at hns; simpa using hns.1
  have n2 : [e2].all (fun e => !starred e) = true := by rw [List.all_cons, Bool.and_eq_true] at hns; exact hns.2
  refine (RZ.pi_zipA hg hm ha (starEach_cons n1) (back_any n2)).imp fun σ H R h => ?_
  obtain ⟨ρ, env, S, h1, h2, hp⟩ := h
  refine TDs.of h1 h2 (Post.mono (Post.bind hp) fun us S1 ρ1 H1 e1 s1 k1 _ _ xs hx => ?_)
  unfold zpJ at k1
  split at k1
  · obtain ⟨v, w, rfl, r1, r2⟩ := vals2' hx
    obtain ⟨a, vs, rfl, t, r⟩ := rU_tup r1
    obtain ⟨a2, vs2, rfl, t2, rr⟩ := rU_tup r2
    exact ⟨a, a2, vs, vs2, rfl, .inr ⟨hK ▸ t, hK ▸ t2, k1.here s1 _ _ (iok_zpT hK) ⟨⟨t, r⟩, t2, rr⟩⟩⟩
  · obtain ⟨v, w, rfl, r1, r2⟩ := vals2' hx
    split at k1
    · rename_i hs hs2
      obtain ⟨a, vs, rfl, e0, t, r⟩ := rU_seq s1 r1 (seqAt_or hs)
      obtain ⟨a2, vs2, rfl, e2, t2, rr⟩ := rU_seq s1 r2 (seqAt_or hs2)
      exact ⟨a, a2, vs, vs2, rfl, .inl ⟨hK ▸ t, hK ▸ t2, k1.here s1 _ _ (iok_zpL hK) ⟨e0, e2⟩⟩⟩
    · exact k1.elim
  · exact k1.elim

/-! ### range -/
def rgJ1 : List U → Sto → R J
  | [.int j], S => if Sm 4000000000000000000 j then .ok (.vals (rngL 0 j.toNat)) S else .stuck
  | _, _ => .stuck
def rgJ2 : List U → Sto → R J
  | [.int i, .int j], S => if Sm 4000000000000000000 i ∧ Sm 4000000000000000000 j then .ok (.vals (rngL i (j - i).toNat)) S else .stuck
  | _, _ => .stuck
/-- downward by ones -/
def downL (lo : Int) (n : Nat) : List U := (List.range n).map fun i => .int (lo - (i : Nat))
def rgJ3 : List U → Sto → R J
  | [.int i, .int j, .int c], S => if c = -1 ∧ Sm 4000000000000000000 i ∧ Sm 4000000000000000000 j then .ok (.vals (downL i (i - j).toNat)) S else .stuck
  | _, _ => .stuck
theorem iok_down {lo : Int} {n : Nat} : Iok C (.vals (downL lo n)) (Itc lo (-1) n) (fun _ _ => True) where
  keep := fun _ _ _ _ _ _ _ _ => trivial
  out := fun _ _ _ _ _ _ _ _ _ _ => trivial
  go := fun i ρ H S u z g q => by
    have q' : (downL lo n)[i]? = some u := by simpa [J.at] using q
    unfold downL at q'
    rw [List.getElem?_map] at q'
    by_cases h : i < n
    · rw [List.getElem?_range h] at q'; cases q'
      refine ⟨h, fun x H' hy => ?_⟩
      obtain ⟨rfl, rfl⟩ := hy
      exact ⟨Ext.refl, z, by show V.int _ = V.int _; congr 1; omega⟩
    · rw [List.getElem?_eq_none (by simpa using h)] at q'; cases q'
  stop := fun i ρ H S z g q => by
    have q' : (downL lo n)[i]? = none := by simpa [J.at] using q
    rw [List.getElem?_eq_none_iff] at q'
    show n ≤ i
    simpa [downL] using q'
theorem di_rg1 {e : Expr} {ds : Den (List U)} {p pos : Pos} (hg : Gl X "range") (hm : X.mg "range" = none) (ha : PA X [e] (TDs C ds)) (hns : starred e = false) : PI X tg (.Call (.Name "range" p) [e] [] pos) (TDi C (jArgs rgJ1 ds)) :=
  (pi_range1 hg hm ha (starEach_cons hns)).imp fun σ H R h => by
    obtain ⟨ρ, env, S, h1, h2, hp⟩ := h
    refine TDs.of h1 h2 (Post.mono (Post.bind hp) fun us S1 ρ1 H1 e1 s1 k1 _ _ xs hx => ?_)
    unfold rgJ1 at k1
    split at k1
    · obtain ⟨v, rfl, r1⟩ := vals1' hx
      split at k1
      · rename_i hk
        have hk := hk.lt
        exact ⟨_, by rw [rU_int r1], by omega, by omega, k1.here s1 _ _ iok_rng trivial⟩
      · exact k1.elim
    · exact k1.elim
theorem di_rg2 {e e2 : Expr} {ds : Den (List U)} {p pos : Pos} (hg : Gl X "range") (hm : X.mg "range" = none) (ha : PA X [e, e2] (TDs C ds)) (hns : starred e = false) (hns2 : starred e2 = false) : PI X tg (.Call (.Name "range" p) [e, e2] [] pos) (TDi C (jArgs rgJ2 ds)) :=
  (pi_range2 hg hm ha (by rw [starEach_cons hns, starEach_cons hns2]; rfl) (starEach_cons hns2)).imp fun σ H R h => by
    obtain ⟨ρ, env, S, h1, h2, hp⟩ := h
    refine TDs.of h1 h2 (Post.mono (Post.bind hp) fun us S1 ρ1 H1 e1 s1 k1 _ _ xs hx => ?_)
    unfold rgJ2 at k1
    split at k1
    · obtain ⟨v, w, rfl, r1, r2⟩ := vals2' hx
      split at k1
      · rename_i hk
        have h1' := hk.1.lt
        have h2' := hk.2.lt
        exact ⟨_, _, by rw [rU_int r1, rU_int r2], by omega, k1.here s1 _ _ iok_rng trivial⟩
      · exact k1.elim
    · exact k1.elim
theorem di_rg3 {e e2 e3 : Expr} {ds : Den (List U)} {p pos : Pos} (hg : Gl X "range") (hm : X.mg "range" = none) (ha : PA X [e, e2, e3] (TDs C ds)) (hns : starred e = false) (hns2 : [e2, e3].all (fun e => !starred e) = true) : PI X tg (.Call (.Name "range" p) [e, e2, e3] [] pos) (TDi C (jArgs rgJ3 ds)) :=
  (pi_range3 hg hm ha (starEach_cons hns) (back_any hns2)).imp fun σ H R h => by
    obtain ⟨ρ, env, S, h1, h2, hp⟩ := h
    refine TDs.of h1 h2 (Post.mono (Post.bind hp) fun us S1 ρ1 H1 e1 s1 k1 _ _ xs hx => ?_)
    unfold rgJ3 at k1
    split at k1
    · obtain ⟨v, vr, rfl, r1, rr⟩ := hx
      obtain ⟨w, x, rfl, r2, r3⟩ := vals2' rr
      split at k1
      · rename_i hk
        obtain ⟨rfl, hk⟩ := hk
        exact ⟨_, _, _, _, by rw [rU_int r1, rU_int r2, rU_int r3], RgC.neg (by have := hk.1.lt; omega) (by have := hk.1.lt; omega) (by have := hk.2.lt; omega) (by have := hk.2.lt; omega), k1.here s1 _ _ iok_down trivial⟩
      · exact k1.elim
    · exact k1.elim
end
end Bq

set_option linter.all false
set_option maxRecDepth 100000
set_option maxHeartbeats 4000000
namespace Bq
open PySem
open PySem.Spec
open PyProof.Rows
open L2
/-! ### list comprehensions -/
def noX {α : Type} : R α → R α
  | .exc _ _ _ => .stuck
  | r => r
def compL (g : DG) (ts : Den Bool) (de : Den U) (own : List Nat) (j : J) (env : Evn) : Nat → Nat → List U → Sto → R (List U)
  | 0, _, _, _ => .stuck
  | n + 1, i, acc, S => match j.at S i with
    | none => .stuck
    | some none => .ok acc S
    | some (some u) => match g u (wipeU env own) S with
      | .stuck => .stuck
      | .ok e1 S1 => (noX (ts e1 S1)).bind fun b S2 => if b then (noX (de e1 S2)).bind fun y S3 => if acc.length < LIM then compL g ts de own j env n (i + 1) (acc ++ [y]) S3 else .stuck
        else compL g ts de own j env n (i + 1) acc S2
def dComp (dj : Den J) (own : List Nat) (g : DG) (ts : Den Bool) (de : Den U) : Den U := fun env S => (dj env S).bind fun j S1 => (compL g ts de own j env (j.len S1 + 1) 0 [] S1).bind fun us S2 => ofO (mkLst us S2)
section
variable {X : Cx} {C C' : Cn} {ρ ρ' ρ1 ρ2 : List Addr} {H H' H1 H2 : Hp} {σ σ' : L2.St} {S S' : Sto}
/-- a part run further on, the rest told of the beginning; what it raises is not told -/
theorem Post.part {α β : Type} {r : R α} {f : α → Sto → R β} {k : β → Sto → List Addr → Hp → Prop} (hK : C'.K = C.K) (hl : C'.cl = C.cl) (h : Post C ((noX r).bind f) ρ1 H1 σ k) : Post C' r ρ2 H2 σ' fun a S3 _ _ => Post C (f a S3) ρ1 H1 σ k := by
  cases r with
  | ok a S3 => exact fun _ _ _ _ => h
  | exc c u S3 => exact h.elim
  | stuck => exact h
theorem RS.out {K : PySem.W.Frag} {cl : Nat → Addr} (r : RS K cl ρ H S) {D : Addr} {vs ws : List V} (hD : H D = some (.lst vs)) (hn : D ∉ ρ) : RS K cl ρ (upd H D (.lst ws)) S := by
  have key : ∀ (u : U) (v : V), RU K ρ H u v → RU K ρ (upd H D (.lst ws)) u v := by
    have sq : ∀ a xs, SqT K H a xs → SqT K (upd H D (.lst ws)) a xs := fun a xs h => by
      rcases h with (h | ⟨o, h⟩) | h
      · refine .inl (.inl ?_); rw [upd_ne (by rintro rfl; rw [hD] at h; cases h)]; exact h
      · refine .inl (.inr ⟨o, ?_⟩); rw [upd_ne (by rintro rfl; rw [hD] at h; cases h)]; exact h
      · exact .inr h
    exact fun u => U.rec (motive_1 := fun u => ∀ v, RU K ρ H u v → RU K ρ (upd H D (.lst ws)) u v) (motive_2 := fun us => ∀ vs, RUs K ρ H us vs → RUs K ρ (upd H D (.lst ws)) us vs)
      (fun _ h => h) (fun _ _ h => h) (fun _ _ h => h) (fun _ _ h => h) (fun us ih v h => by obtain ⟨a, vs, h1, h2, h3⟩ := h; exact ⟨a, vs, h1, sq _ _ h2, ih _ h3⟩) (fun _ _ h => h) (fun _ _ h => h) (fun us ih v h => by obtain ⟨a, vs, h1, h2, h3⟩ := h; exact ⟨a, vs, h1, h2, ih _ h3⟩)
      (fun _ h => h) (fun u us i1 i2 vs h => by obtain ⟨v, vr, h1, h2, h3⟩ := h; exact ⟨v, vr, h1, i1 _ h2, i2 _ h3⟩) u
  have keys : ∀ (us : List U) (vs : List V), RUs K ρ H us vs → RUs K ρ (upd H D (.lst ws)) us vs := fun us => by
    induction us with
    | nil => exact fun _ h => h
    | cons u us ih => exact fun vs h => by obtain ⟨v, vr, h1, h2, h3⟩ := h; exact ⟨v, vr, h1, key _ _ h2, ih _ h3⟩
  refine ⟨r.len, r.nd, fun n o a h1 h2 => ?_⟩
  have ro := r.ob n o a h1 h2
  have e : upd H D (.lst ws) a = H a := upd_ne (by rintro rfl; exact hn (List.mem_of_getElem? h2))
  cases o with
  | lst us => obtain ⟨vs, a1, a2⟩ := ro; exact ⟨vs, by rw [e]; exact a1, keys _ _ a2⟩
  | frz us => obtain ⟨vs, o, a1, a2⟩ := ro; exact ⟨vs, o, by rw [e]; exact a1, keys _ _ a2⟩
  | ins C fs => obtain ⟨dx, gs, a1, a2, a3⟩ := ro; exact ⟨dx, gs, by rw [e]; exact a1, a2, keys _ _ a3⟩
  | dct kvs => obtain ⟨gs, a1, a2, a3⟩ := ro; exact ⟨gs, by rw [e]; exact a1, a2, keys _ _ a3⟩
theorem Rσ.out {K : PySem.W.Frag} {D : Addr} {vs ws : List V} {env : Evn} (hD : H D = some (.lst vs)) (r : Rσ K ρ H env σ) : Rσ K ρ (upd H D (.lst ws)) env σ :=
  ⟨r.1, fun i u e => by obtain ⟨v, h1, h2⟩ := r.2 i u e; exact ⟨v, h1, RU.out hD _ _ h2⟩⟩
/-- the list that was made comes into the store -/
theorem RS.adopt (r : C.Z ρ H S) {D : Addr} {us : List U} {vs : List V} (hD : H D = some (.lst vs)) (hn : D ∉ ρ) (h : RUs C.K ρ H us vs) : C.Z (ρ ++ [D]) H (S ++ [.lst us]) ∧ C.U (ρ ++ [D]) H (.loc S.length) (.ref D) := by
  have mono : ∀ (u : U) (v : V), RU C.K ρ H u v → RU C.K (ρ ++ [D]) H u v := fun u => U.rec (motive_1 := fun u => ∀ v, RU C.K ρ H u v → RU C.K (ρ ++ [D]) H u v) (motive_2 := fun us => ∀ vs, RUs C.K ρ H us vs → RUs C.K (ρ ++ [D]) H us vs)
    (fun _ h => h) (fun _ _ h => h) (fun _ _ h => h) (fun _ _ h => h) (fun us ih v h => by obtain ⟨a, vs, h1, h2, h3⟩ := h; exact ⟨a, vs, h1, h2, ih _ h3⟩)
    (fun n v h => by obtain ⟨a, h1, h2⟩ := h; exact ⟨a, by rw [List.getElem?_append_left (List.getElem?_eq_some_iff.mp h1).1]; exact h1, h2⟩) (fun _ _ h => h) (fun us ih v h => by obtain ⟨a, vs, h1, h2, h3⟩ := h; exact ⟨a, vs, h1, h2, ih _ h3⟩)
    (fun _ h => h) (fun u us i1 i2 vs h => by obtain ⟨v, vr, h1, h2, h3⟩ := h; exact ⟨v, vr, h1, i1 _ h2, i2 _ h3⟩) u
  have monos : ∀ (us : List U) (vs : List V), RUs C.K ρ H us vs → RUs C.K (ρ ++ [D]) H us vs := fun us => by
    induction us with
    | nil => exact fun _ h => h
    | cons u us ih => exact fun vs h => by obtain ⟨v, vr, h1, h2, h3⟩ := h; exact ⟨v, vr, h1, mono _ _ h2, ih _ h3⟩
  refine ⟨⟨by simp [r.len], ?_, fun n o a h1 h2 => ?_⟩, D, ?_, rfl⟩
  · rw [List.nodup_append]
    refine ⟨r.nd, by simp, fun x hx y hy e => ?_⟩
    have : y = D := by simpa using hy
    subst this; subst e; exact hn hx
  · by_cases hl : n < S.length
    · rw [List.getElem?_append_left hl] at h1
      rw [List.getElem?_append_left (by rw [r.len]; exact hl)] at h2
      have ro := r.ob n o a h1 h2
      cases o with
      | lst us => obtain ⟨vs, a1, a2⟩ := ro; exact ⟨vs, a1, monos _ _ a2⟩
      | frz us => obtain ⟨vs, o, a1, a2⟩ := ro; exact ⟨vs, o, a1, monos _ _ a2⟩
      | ins C fs => obtain ⟨dx, gs, a1, a2, a3⟩ := ro; exact ⟨dx, gs, a1, a2, monos _ _ a3⟩
      | dct kvs => obtain ⟨gs, a1, a2, a3⟩ := ro; exact ⟨gs, a1, a2, monos _ _ a3⟩
    · have hl2 : S.length ≤ n := by omega
      rw [List.getElem?_append_right hl2] at h1
      rw [List.getElem?_append_right (by rw [r.len]; exact hl2), r.len] at h2
      have : n - S.length = 0 := by
        cases q : n - S.length with
        | zero => rfl
        | succ k => rw [q] at h1; simp at h1
      rw [this] at h1 h2
      simp at h1 h2
      subst h1 h2
      exact ⟨vs, hD, monos _ _ h⟩
  · rw [List.getElem?_append_right (by rw [r.len]; exact Nat.le_refl _), r.len]
    simp
theorem wipe_get {σ : L2.St} {j : Nat} : ∀ {vs : List Nat}, j ∉ vs → (wipe σ vs)[j]? = σ[j]?
  | [], _ => rfl
  | v :: vs, h => by
    simp only [List.mem_cons, not_or] at h
    unfold L2.wipe
    rw [List.getElem?_set_ne (Ne.symm h.1), wipe_get h.2]
theorem wipe_in {σ : L2.St} {j : Nat} : ∀ {vs : List Nat}, j ∈ vs → j < σ.length → (wipe σ vs)[j]? = some none
  | v :: vs, h, hj => by
    unfold L2.wipe
    by_cases e : v = j
    · subst e; rw [List.getElem?_set_self (by rw [wipe_length]; exact hj)]
    · rw [List.getElem?_set_ne e]
      rcases List.mem_cons.mp h with z | z
      · exact absurd z.symm e
      · exact wipe_in z hj
theorem wipe_eq {σ σ' : L2.St} {vs : List Nat} (hl : σ'.length = σ.length) (h : ∀ j, j ∉ vs → σ'[j]? = σ[j]?) : wipe σ' vs = wipe σ vs := by
  apply List.ext_getElem?
  intro j
  by_cases hj : j ∈ vs
  · by_cases hlt : j < σ.length
    · rw [wipe_in hj hlt, wipe_in hj (by rw [hl]; exact hlt)]
    · rw [List.getElem?_eq_none (by rw [wipe_length]; omega), List.getElem?_eq_none (by rw [wipe_length]; omega)]
  · rw [wipe_get hj, wipe_get hj, h j hj]
theorem wipe_wipe {σ : L2.St} {vs : List Nat} : wipe (wipe σ vs) vs = wipe σ vs := wipe_eq (wipe_length _ _) fun j hj => wipe_get hj
/-- the reading of a comprehension -/
theorem tLc_own (hK : C'.K = C.K) (hl : C'.cl = C.cl) {dj : Den J} {own sl : List Nat} {g : DG} {ts : Den Bool} {de : Den U} {Q : VK} (hsl : ∀ i ∈ sl, i ∈ own) (h : TD C (dComp dj own g ts de) σ H Q) :
    tLc (TDi C dj) (TDg C' sl g) (TDb C' ts) (TD C' de) own σ H Q := by
  have hZ : ∀ {ρ H S}, C'.Z ρ H S ↔ C.Z ρ H S := by intro ρ H S; unfold Cn.Z; rw [hK, hl]
  have hU : ∀ {ρ H u v}, C'.U ρ H u v ↔ C.U ρ H u v := by intro ρ H u v; unfold Cn.U; rw [hK]
  obtain ⟨ρ, env, S, h1, h2, hp⟩ := h
  refine ⟨ρ, env, S, h1, h2, Post.mono (Post.bind hp) fun j S1 ρ1 H1 e1 s1 k1 Jt G ok hG D hD => ?_⟩
  have hD1 : D ∉ ρ1 := s1.notin hD
  have s1' : C.Z ρ1 (upd H1 D (.lst [])) S1 := s1.fresh hD
  have eD : Ext ρ1 H1 ρ1 (upd H1 D (.lst [])) := Ext.fresh hD
  refine ⟨fun i m H2 => ∃ ρ2 S2 acc vs, Rσ C.K ρ2 H2 env σ ∧ C.Z ρ2 H2 S2 ∧ G ρ2 H2 ∧ H2 D = some (.lst vs) ∧ RUs C.K ρ2 H2 acc vs ∧ D ∉ ρ2 ∧ Ext ρ1 H1 ρ2 H2 ∧
    Post C ((compL g ts de own j env m i acc S2).bind fun us S2 => ofO (mkLst us S2)) ρ1 H1 σ fun u _ ρ' H' => ∀ v, C.U ρ' H' u v → Q v H',
    ⟨_, ρ1, S1, [], [], (h1.ext h2 e1).ext s1 eD, s1', ok.keep _ _ _ _ _ s1 eD hG, upd_same, rfl, hD1, eD, k1⟩, ?_⟩
  rintro i m H2 ⟨ρ2, S2, acc, vs, r2, z2, g2, d2, a2, n2, x2, p2⟩
  cases m with
  | zero => exact p2.elim
  | succ m =>
    unfold compL at p2
    cases q : j.at S2 i with
    | none => simp only [q] at p2; exact p2.elim
    | some o =>
      cases o with
      | none =>
        simp only [q] at p2
        refine .inl ⟨ok.stop i ρ2 H2 S2 z2 g2 q, ?_⟩
        have p3 : Post C (ofO (mkLst acc S2)) ρ1 H1 σ _ := p2
        unfold mkLst at p3
        split at p3
        · obtain ⟨zz, uu⟩ := RS.adopt z2 d2 n2 a2
          refine p3 (ρ2 ++ [D]) H2 ⟨?_, x2.same, x2.live⟩ zz _ uu
          obtain ⟨l, rfl, hl'⟩ := x2.pre
          refine ⟨l ++ [D], by simp, fun a ha => ?_⟩
          rcases List.mem_append.mp ha with ha | ha
          · exact hl' a ha
          · have : a = D := by simpa using ha
            subst this; exact hD
        · exact p3.elim
      | some u =>
        simp only [q] at p2
        obtain ⟨go, yl⟩ := ok.go i ρ2 H2 S2 u z2 g2 q
        refine .inr ⟨go, fun H3 => ∃ ρ3 S3 acc vs, Rσ C.K ρ3 H3 env σ ∧ C.Z ρ3 H3 S3 ∧ G ρ3 H3 ∧ H3 D = some (.lst vs) ∧ RUs C.K ρ3 H3 acc vs ∧ D ∉ ρ3 ∧ Ext ρ1 H1 ρ3 H3 ∧
          Post C ((compL g ts de own j env m (i + 1) acc S3).bind fun us S2 => ofO (mkLst us S2)) ρ1 H1 σ fun u _ ρ' H' => ∀ v, C.U ρ' H' u v → Q v H', fun H' hw => ⟨m, Nat.lt_succ_self m, hw⟩, fun x H' hy => ?_⟩
        obtain ⟨ex, z3, hu⟩ := yl x H' hy
        have g3 := ok.keep _ _ _ _ _ z2 ex g2
        have d3 : H' D = some (.lst vs) := ex.same _ _ n2 d2
        have a3 := RUs.ext z2 ex _ _ a2
        refine ⟨ρ2, wipeU env own, S2, u, by rw [hK]; exact (r2.ext z2 ex).wipe own, hZ.mpr z3, hU.mpr hu, ?_⟩
        cases q2 : g u (wipeU env own) S2 with
        | stuck => simp only [q2] at p2; exact p2.elim
        | ok eb Sb =>
          simp only [q2, bind_assoc'] at p2
          refine fun ρ4 H4 ex4 z4 σ4 r4 l4 o4 => ⟨?_, ρ4, eb, Sb, r4, z4, ?_⟩
          · rw [wipe_eq l4 fun j hj => o4 j fun hm => hj (hsl j hm), wipe_wipe]
          · have zz4 := hZ.mp z4
            have n4 : D ∉ ρ4 := fun hm => by
              obtain ⟨l, rfl, hl'⟩ := ex4.pre
              rcases List.mem_append.mp hm with hm | hm
              · exact n2 hm
              · have := hl' D hm; rw [d3] at this; cases this
            refine Post.mono (Post.part hK hl p2) fun b S5 ρ5 H5 e5 z5 p5 => ?_
            have zz5 := hZ.mp z5
            have e45 := ex4.trans e5
            have d5 : H5 D = some (.lst vs) := e45.same _ _ n2 d3
            have a5 := RUs.ext z3 e45 _ _ a3
            have r5 := ((r2.ext z2 ex).ext z3 e45)
            have g5 := ok.keep _ _ _ _ _ z3 e45 g3
            have n5 : D ∉ ρ5 := fun hm => by
              obtain ⟨l, rfl, hl'⟩ := e5.pre
              rcases List.mem_append.mp hm with hm | hm
              · exact n4 hm
              · have := hl' D hm
                rw [ex4.same _ _ n2 d3] at this; cases this
            cases b with
            | false => exact ⟨ρ5, S5, acc, vs, r5, zz5, g5, d5, a5, n5, x2.trans (ex.trans e45), p5⟩
            | true =>
              simp only [if_true, bind_assoc'] at p5
              refine ⟨ρ5, eb, S5, r4.ext z4 e5, z5, Post.mono (Post.part hK hl p5) fun y S6 ρ6 H6 e6 z6 p6 yv hy => ?_⟩
              split at p6
              · rename_i hlim
                have zz6 := hZ.mp z6
                have d6 : H6 D = some (.lst vs) := e6.same _ _ n5 d5
                have n6 : D ∉ ρ6 := fun hm => by
                  obtain ⟨l, rfl, hl'⟩ := e6.pre
                  rcases List.mem_append.mp hm with hm | hm
                  · exact n5 hm
                  · have := hl' D hm; rw [d5] at this; cases this
                have a6 := RUs.ext zz5 e6 _ _ a5
                refine ⟨vs, d6, by rw [← a6.length, ← LIM_eq]; exact hlim, ρ6, S6, acc ++ [y], vs ++ [yv], ?_, ?_, ?_, upd_same, ?_, n6, ?_, p6⟩
                · exact (r5.ext zz5 e6).out d6
                · exact zz6.out d6 n6
                · exact ok.out _ _ _ _ _ _ zz6 d6 n6 (ok.keep _ _ _ _ _ zz5 e6 g5)
                · exact RUs.out d6 _ _ (a6.append ⟨yv, [], rfl, hU.mp hy, rfl⟩)
                · have x6 := x2.trans (ex.trans (e45.trans e6))
                  refine ⟨x6.pre, fun a o ha hs => ?_, fun a ha => ?_⟩
                  · rw [upd_ne (ne_of_none hs hD)]; exact x6.same a o ha hs
                  · by_cases e : a = D
                    · subst e; rw [upd_same] at ha; cases ha
                    · rw [upd_ne e] at ha; exact x6.live a ha
              · exact p6.elim
end
end Bq

set_option linter.all false
set_option maxRecDepth 100000
set_option maxHeartbeats 4000000
namespace Bq
open PySem
open PySem.Spec
open PyProof.Rows
open L2
/-! ### how arguments come to parameters: none has a default; keywords in the parameters' order -/
theorem forIn_kw {f : Str × Value → List (Str × Value) × List (Str × Value) → Sem (ForInStep (List (Str × Value) × List (Str × Value)))} :
    ∀ (kw : List (Str × Value)) (sl ex : List (Str × Value)), (∀ k v sl ex, (k, v) ∈ kw → sl.lookup k = none → f (k, v) (sl, ex) = pure (.yield (sl ++ [(k, v)], ex))) → (∀ p ∈ kw, sl.lookup p.1 = none) → (kw.map (·.1)).Nodup →
      forIn kw (sl, ex) f = pure (sl ++ kw, ex)
  | [], sl, ex, _, _, _ => by rw [List.forIn_nil, List.append_nil]
  | (k, v) :: r, sl, ex, h, hn, nd => by
    rw [List.forIn_cons, h k v sl ex (by simp) (hn (k, v) (by simp)), pure_bind]
    show forIn r (sl ++ [(k, v)], ex) f = _
    rw [List.map_cons, List.nodup_cons] at nd
    rw [forIn_kw r (sl ++ [(k, v)]) ex (fun k' v' sl' ex' hm => h k' v' sl' ex' (List.mem_cons_of_mem _ hm)) (fun p hp => ?_) nd.2]
    · simp
    · rw [List.lookup_append, hn p (List.mem_cons_of_mem _ hp)]
      have ne : p.1 ≠ k := fun e => nd.1 (List.mem_map.mpr ⟨p, hp, e⟩)
      have nb : (p.1 == k) = false := by simpa using ne
      simp [List.lookup, nb]
theorem lookup_zip_none {k : Str} : ∀ {ps : List Str} {us : List Value}, k ∉ ps → (ps.zip us).lookup k = none
  | [], _, _ => by simp
  | _ :: _, [], _ => by simp
  | p :: ps, u :: us, h => by
    simp only [List.mem_cons, not_or] at h
    have : (k == p) = false := by simpa using h.1
    rw [List.zip_cons_cons, List.lookup_cons, this]
    exact lookup_zip_none h.2
theorem filterMap_same {α β : Type} {f g : α → Option β} : ∀ {l : List α}, (∀ x ∈ l, f x = g x) → l.filterMap f = l.filterMap g
  | [], _ => rfl
  | x :: l, h => by rw [List.filterMap_cons, List.filterMap_cons, h x (by simp), filterMap_same fun y hy => h y (List.mem_cons_of_mem _ hy)]
theorem filterMap_zip : ∀ {ps : List Str} {us : List Value}, ps.Nodup → us.length = ps.length → ps.filterMap (fun n => ((ps.zip us).lookup n).map fun x => (n, x)) = ps.zip us
  | [], us, _, h => by simp
  | p :: ps, [], _, h => by simp at h
  | p :: ps, u :: us, nd, h => by
    rw [List.nodup_cons] at nd
    have ih := filterMap_zip (ps := ps) (us := us) nd.2 (by simpa using h)
    rw [List.filterMap_cons]
    have e1 : ((p :: ps).zip (u :: us)).lookup p = some u := by simp [List.lookup]
    rw [e1]
    simp only [Option.map_some]
    congr 1
    have : ps.filterMap (fun n => (((p :: ps).zip (u :: us)).lookup n).map fun x => (n, x)) = ps.filterMap (fun n => ((ps.zip us).lookup n).map fun x => (n, x)) := by
      refine filterMap_same fun n hn => ?_
      have : (n == p) = false := by simpa using fun e : n = p => nd.1 (e ▸ hn)
      rw [List.zip_cons_cons, List.lookup_cons, this]
    rw [this, ih]; rfl
theorem lookup_zip_some {k : Str} : ∀ {ps : List Str} {us : List Value}, us.length = ps.length → k ∈ ps → ((ps.zip us).lookup k).isNone = false
  | [], _, _, h => by simp at h
  | _ :: _, [], h, _ => by simp at h
  | p :: ps, u :: us, hl, h => by
    by_cases e : k = p
    · subst e; simp [List.lookup]
    · have : (k == p) = false := by simpa using e
      rw [List.zip_cons_cons, List.lookup_cons, this]
      exact lookup_zip_some (by simpa using hl) ((List.mem_cons.mp h).resolve_left e)
structure Plain (fd : FuncData) (ps : List Str) : Prop where
  po : fd.params.posonlyargs = []
  ko : fd.params.kwonlyargs = []
  va : fd.params.vararg = none
  ka : fd.params.kwarg = none
  df : fd.defaults = .none
  ps : fd.params.args.map (·.arg) = ps
theorem bind_plain {fd : FuncData} {ps : List Str} (P : Plain fd ps) (nd : ps.Nodup) {us ws : List Value} {ks : List Str} (hk : ks = ps.drop us.length) (hl : us.length + ws.length = ps.length) : bindArgs fd ⟨us, ks.zip ws⟩ = pure (ps.zip (us ++ ws)) := by
  have e2 : ps.zip us = (ps.take us.length).zip us := by
    have : ∀ (ps : List Str) (us : List Value), ps.zip us = (ps.take us.length).zip us := by
      intro ps us
      induction us generalizing ps with
      | nil => simp
      | cons u us ih => cases ps with
        | nil => simp
        | cons p ps => simp only [List.zip_cons_cons, List.length_cons, List.take_succ_cons]; rw [ih]
    exact this ps us
  have nk : ∀ k ∈ ks, k ∉ ps.take us.length := fun k hkm hm => by
    have h := nd
    rw [← List.take_append_drop us.length ps, List.nodup_append] at h
    exact h.2.2 k hm k (hk ▸ hkm) rfl
  have e1 : ps.zip us ++ ks.zip ws = ps.zip (us ++ ws) := by
    conv => rhs; rw [← List.take_append_drop us.length ps]
    rw [List.zip_append (by rw [List.length_take]; omega), e2, hk]
  unfold bindArgs
  simp only [P.po, P.ko, P.va, P.ka, P.df, P.ps, List.map_nil, List.nil_append, List.append_nil]
  have mk : (ks.zip ws).map (·.1) = ks := by
    rw [List.map_fst_zip]
    rw [hk, List.length_drop]; omega
  have ndk : ((ks.zip ws).map (·.1)).Nodup := by
    rw [mk, hk]; exact nd.sublist (List.drop_sublist _ _)
  have lk : ∀ p ∈ ks.zip ws, (ps.zip us).lookup p.1 = none := fun p hp => by
    rw [e2]; exact lookup_zip_none (nk p.1 (List.of_mem_zip hp).1)
  rw [forIn_kw (ks.zip ws) (ps.zip us) [] ?fc lk ndk]
  case fc =>
    intro k v sl ex hm hn
    have hkm : k ∈ ps := by
      have := (List.of_mem_zip hm).1
      rw [hk] at this; exact List.mem_of_mem_drop this
    have c1 : (ps.contains k || ([] : List Str).contains k) = true := by simpa using hkm
    rw [if_pos c1]
    have c2 : ¬ (List.lookup k sl).isSome = true := by rw [hn]; simp
    rw [if_neg c2]
  rw [pure_bind]
  have sq : seqItems? Value.none = pure none := rfl
  rw [sq, pure_bind]
  have hlen : us.length ≤ ps.length := by omega
  have g : ¬ us.length > ps.length := by omega
  have fl : ps.filter (fun n => ((ps.zip (us ++ ws)).lookup n).isNone) = [] := by
    rw [List.filter_eq_nil_iff]
    intro n hn
    rw [lookup_zip_some (by rw [List.length_append]; exact hl) hn]; simp
  simp only [e1, g, decide_false, Bool.false_and, Option.getD_none, List.length_nil, Nat.zero_sub, List.drop_nil, Nat.sub_zero, List.take_length, fl, List.isEmpty_nil, Bool.not_true, Bool.false_eq_true, if_false, List.drop_length, List.zip_nil_right, List.forIn_nil, pure_bind]
  rw [filterMap_zip nd (by rw [List.length_append]; exact hl)]

/-! ### chains -/
def dChn (f g : Op2) (da db dc : Den U) : Den U := fun env S => (da env S).bind fun u S1 => (db env S1).bind fun w S2 => (ofO (f u w S2)).bind fun z S3 => match z with
  | .bl true => (dc env S3).bind fun x S4 => ofO (g w x S4)
  | .bl false => .ok (.bl false) S3
  | _ => .stuck
section
variable {X : Cx} {C : Cn} {a b c e : Expr} {da db dc : Den U} {pos : Pos}
theorem chn_own {f g : Op2} {σ : L2.St} {H : Hp} {Q : VK} (h : TD C (dChn f g da db dc) σ H Q) : tChain (rOwn C f) (rOwn C g) (TD C da) (TD C db) (TD C dc) σ H Q := by
  obtain ⟨ρ, env, S, h1, h2, hp⟩ := h
  refine TD.of h1 h2 (Post.mono (Post.bind hp) fun u S1 ρ1 H1 e1 s1 k1 _ _ x hx => ?_)
  refine TD.of (h1.ext h2 e1) s1 (Post.mono (Post.bind k1) fun w S2 ρ2 H2 e2 s2 k2 _ _ y hy => ?_)
  have k3 := Post.bind k2
  cases q : f u w S2 with
  | none => rw [q] at k3; exact k3.elim
  | some r =>
    obtain ⟨z, S'⟩ := r
    rw [q] at k3
    refine ⟨ρ2, S2, u, w, z, S', q, s2, RU.ext s1 e2 _ _ hx, hy, fun ρ3 H3 v e3 s3 r3 => ?_⟩
    have k4 := k3 ρ3 H3 e3 s3
    cases z with
    | bl k =>
      refine ⟨k, r3, ?_⟩
      cases k with
      | false => exact k4.here s3 _ rfl
      | true =>
        refine TD.of (((h1.ext h2 e1).ext s1 e2).ext s2 e3) s3 (Post.mono (Post.bind k4) fun x' S4 ρ4 H4 e4 s4 k5 _ _ xv hxv => ?_)
        cases q2 : g w x' S4 with
        | none => rw [q2] at k5; exact k5.elim
        | some r =>
          obtain ⟨z, S'⟩ := r
          rw [q2] at k5
          exact ⟨ρ4, S4, w, x', z, S', q2, s4, RU.ext s3 e4 _ _ (RU.ext s2 e3 _ _ hy), hxv, fun ρ' H' v e s r => k5 ρ' H' e s v r⟩
    | _ => exact k4.elim
theorem de_chn {f g : Op2} {op op' : CmpOp} (ho : OpR X (compareOp op) (rOwn C f)) (ho' : OpR X (compareOp op') (rOwn C g)) (ha : PE X a (TD C da)) (hb : PE X b (TD C db)) (hc : PE X c (TD C dc)) (hs : isSet c = false) : PE X (.Compare a [op, op'] [b, c] pos) (TD C (dChn f g da db dc)) :=
  (pe_chain ho ho' ha hb hc (mark_plain hs)).imp fun _ _ _ h => chn_own h
theorem dt_chn {f g : Op2} {op op' : CmpOp} (ho : OpR X (compareOp op) (rOwn C f)) (ho' : OpR X (compareOp op') (rOwn C g)) (ha : PE X a (TD C da)) (hb : PE X b (TD C db)) (hc : PE X c (TD C dc)) (hs : isSet c = false) : PT X (.Compare a [op, op'] [b, c] pos) (TDb C (dB (dChn f g da db dc))) :=
  (pt_chain ho ho' ha hb hc (mark_plain hs)).imp fun σ H Q h => by
    obtain ⟨ρ, env, S, h1, h2, hp⟩ := h
    refine chn_own ⟨ρ, env, S, h1, h2, Post.mono (Post.bind hp) fun u S1 ρ1 H1 e1 s1 k1 x hx => ?_⟩
    cases u with
    | bl b =>
      have : x = .bl b := hx
      exact ⟨b, this, k1.here s1⟩
    | _ => exact k1.elim

/-! ### comprehensions, as values and stored -/
def Cn.mute (C : Cn) : Cn := { C with Ex := fun _ _ _ _ _ => False }
abbrev blkX (X : Cx) (scope : Scope) (s : Shared) (H : Hp) (A : Addr) (cl : List (Str × Addr)) (fp : List Addr) : Cx := X.blk s H scope (compEnvC scope cl A X.env) fp
theorem de_comp {elt tg iter : Expr} {ifs : List Expr} {scope : Scope} {own : List (Str × Nat)} {dj : Den J} {sl : List Nat} {g : DG} {ts : Den Bool} {de : Den U} (hc : X.calm = true) (hN : X.N.Nodup) (hi : PI X tg iter (TDi C dj)) (ok : BlkOk X.N X.env.scope scope own)
    (hg : ∀ s H A cl fp, PG (blkX X scope s H A cl fp) tg (TDg C.mute sl g)) (ht : ∀ s H A cl fp, PTs (blkX X scope s H A cl fp) ifs (TDb C.mute ts)) (he : ∀ s H A cl fp, PE (blkX X scope s H A cl fp) elt (TD C.mute de)) (hs : isSet iter = false) (hsl : ∀ i ∈ sl, i ∈ own.map (·.2)) :
    PE X (.ListComp elt [⟨tg, iter, ifs, 0⟩] scope pos) (TD C (dComp dj (own.map (·.2)) g ts de)) :=
  (pe_lc hc hN hi ok hg ht he (set_plain hs)).imp fun _ _ _ h => tLc_own (C := C) (C' := C.mute) rfl rfl hsl h
theorem ds_setComp {i : Nat} {y : Str} {py spos : Pos} {elt tg iter : Expr} {ifs : List Expr} {scope : Scope} {own : List (Str × Nat)} {dj : Den J} {sl : List Nat} {g : DG} {ts : Den Bool} {de : Den U} (hc : X.calm = true) (hN : X.N.Nodup) (hy : X.N[i]? = some y) (hyl : X.env.scope.names.lookup y = some .local)
    (hsw : swapsWith (.ListComp elt [⟨tg, iter, ifs, 0⟩] scope pos) (some (.Name y py)) spos.line X.env = pure true) (hi : PI X tg iter (TDi C dj)) (ok : BlkOk X.N X.env.scope scope own)
    (hg : ∀ s H A cl fp, PG (blkX X scope s H A cl fp) tg (TDg C.mute sl g)) (ht : ∀ s H A cl fp, PTs (blkX X scope s H A cl fp) ifs (TDb C.mute ts)) (he : ∀ s H A cl fp, PE (blkX X scope s H A cl fp) elt (TD C.mute de)) (hs : isSet iter = false) (hsl : ∀ i ∈ sl, i ∈ own.map (·.2)) :
    PS X (.Assign [.Name y py] (.ListComp elt [⟨tg, iter, ifs, 0⟩] scope pos) spos) (TDS C (sAsg (dComp dj (own.map (·.2)) g ts de) (gNm i))) :=
  (ps_setLc hc hN hy hyl hsw hi ok hg ht he (set_plain hs)).imp fun D σ H h => by
    obtain ⟨ρ, env, S, h1, h2, hp⟩ := h
    refine tLc_own (C := C) (C' := C.mute) rfl rfl hsl (TD.ofS (α := U) h1 h2 hp fun u S1 ρ1 H1 v a b hv c => c ρ1 H1 _ Ext.refl b (a.set hv i))
def dYes : Den Bool := fun _ S => .ok true S
theorem dts_nil : PTs X [] (TDb C dYes) := pts_nil.imp fun σ H Q h => by
  obtain ⟨ρ, env, S, h1, h2, hp⟩ := h
  exact hp.here h2
theorem dts_one {d : Den Bool} (h : PT X e (TDb C d)) : PTs X [e] (TDb C d) := pts_one h

/-! ### calls of the program's own defs -/
/-- an error of the class with the number c, that keeps u: its class, its own dict -/
def IsExc (ca : Nat → Addr) (cf : Nat → Str) (K : PySem.W.Frag) (c : Nat) (u : U) (ρ : List Addr) (H : Hp) (cls : Value) (d : Addr) : Prop := cls = .ref (ca c) ∧ d ∉ ρ ∧ ∃ v, H d = some (.xd [(cf c, v)]) ∧ RU K ρ H u v
/-- the fixed part: the written part, classes, errors' classes and fields -/
structure Fx where
  K : PySem.W.Frag
  cl : Nat → Addr
  ca : Nat → Addr
  cf : Nat → Str
def Fx.cn (F : Fx) (W : WX) : Cn := ⟨F.K, F.cl, fun c u ρ H σ => ∀ cls d, IsExc F.ca F.cf F.K c u ρ H cls d → W cls (some d) σ H⟩
/-- what a def does, as a promise -/
def PostF (F : Fx) (r : R U) (ρ : List Addr) (H : Hp) (Q : VK) (E : XK) : Prop := match r with
  | .ok u S' => ∀ ρ' H' v, Ext ρ H ρ' H' → RS F.K F.cl ρ' H' S' → RU F.K ρ' H' u v → Q v H'
  | .exc c u S' => ∀ ρ' H', Ext ρ H ρ' H' → RS F.K F.cl ρ' H' S' → ∀ cls d, IsExc F.ca F.cf F.K c u ρ' H' cls d → E cls (some d) H'
  | .stuck => False
def spF (F : Fx) (n : Nat) (f : List U → Sto → R U) : Sp := fun vs H Q E => ∃ ρ S us, RS F.K F.cl ρ H S ∧ RUs F.K ρ H us vs ∧ us.length = n ∧ PostF F (f us S) ρ H Q E
def dCall (f : List U → Sto → R U) (ds : Den (List U)) : Den U := fun env S => (ds env S).bind fun us S1 => f us S1
theorem PostF.of {F : Fx} {W : WX} {r : R U} {ρ : List Addr} {H : Hp} {σ : L2.St} {Q : VK} (h : Post (F.cn W) r ρ H σ fun u _ ρ' H' => ∀ v, (F.cn W).U ρ' H' u v → Q v H') : PostF F r ρ H Q (WE W σ) := by
  cases r with
  | ok u S => exact fun ρ' H' v e s r => h ρ' H' e s v r
  | exc c u S => exact fun ρ' H' e s cls d i => h ρ' H' e s cls d i
  | stuck => exact h
theorem tCallS_own {F : Fx} {W : WX} {n : Nat} {f : List U → Sto → R U} {ds : Den (List U)} {σ : L2.St} {H : Hp} {Q : VK} (hn : ∀ us S, us.length ≠ n → f us S = .stuck) (h : TD (F.cn W) (dCall f ds) σ H Q) : tCallS (spF F n f) (WE W) (TDs (F.cn W) ds) σ H Q := by
  obtain ⟨ρ, env, S, h1, h2, hp⟩ := h
  refine TDs.of h1 h2 (Post.mono (Post.bind hp) fun us S1 ρ1 H1 e1 s1 k2 _ _ xs hx => ⟨ρ1, S1, us, s1, hx, ?_, PostF.of k2⟩)
  by_cases e : us.length = n
  · exact e
  · rw [hn us S1 e] at k2; exact k2.elim
theorem de_call {F : Fx} {W : WX} {n k : Nat} {f : List U → Sto → R U} {ds : Den (List U)} {x : Str} {p : Pos} {es : List Expr} {fa : Addr} {fd : FuncData} {ps : List Str} (hn : ∀ us S, us.length ≠ n → f us S = .stuck)
    (FO : FnOk X.prog X.w X.K X.mg X.base (L2.CX X.prog X.w) k fa fd ps (spF F n f)) (hr : Room k X.A) (hg : Gl X x) (hm : X.mg x = some (.ref fa)) (hk : PySem.W.keepIn X.K (.ref fa) = true) (hb : Binds X.K fd ps []) (tk : Takes X W)
    (ha : PA X (e :: es) (TDs (F.cn W) ds)) (hdb : (x == ("__debug__" : Str)) = false) (hns : (e :: es).all (fun e => !starred e) = true) : PE X (.Call (.Name x p) (e :: es) [] pos) (TD (F.cn W) (dCall f ds)) := by
  have n1 : starred e = false := by rw [List.all_cons, Bool.and_eq_true] at hns; simpa using hns.1
  have n2 : es.all (fun e => !starred e) = true := by rw [List.all_cons, Bool.and_eq_true] at hns; exact hns.2
  exact (pe_callS FO hr hg hm hk hb (fun σ => passAt tk σ) ha hdb (starEach_cons n1) (back_any n2)).imp fun _ _ _ h => tCallS_own hn h
end
end Bq

set_option linter.all false
set_option maxRecDepth 100000
set_option maxHeartbeats 4000000
namespace Bq
open PySem
open PySem.Spec
open PyProof.Rows
open L2
/-! ### calls with keywords -/
def dCall2 (f : List U → Sto → R U) (ds es : Den (List U)) : Den U := fun env S => (ds env S).bind fun us S1 => (es env S1).bind fun ws S2 => f (us ++ ws) S2
section
variable {X : Cx} {C : Cn}
theorem _root_.L2.PK.imp {kws : List Keyword} {t t' : TA} (h : PK X kws t) (g : ∀ σ H Q, t' σ H Q → t σ H Q) : PK X kws t' := ⟨fun pos pins s σ H Q I q => h.run pos pins s σ H Q I (g _ _ _ q)⟩
theorem dk_nil : PK X [] (TDs C dNil) := pk_nil.imp fun σ H Q h => by
  obtain ⟨ρ, env, S, h1, h2, hp⟩ := h
  exact hp.here h2 [] rfl
theorem dk_cons {e : Expr} {kws : List Keyword} {nm : Option Str} {kpos : Pos} {d : Den U} {ds : Den (List U)} (h : PE X e (TD C d)) (hr : PK X kws (TDs C ds)) : PK X (⟨nm, e, kpos⟩ :: kws) (TDs C (dCons d ds)) :=
  (pk_cons h hr).imp fun σ H Q h => by
    obtain ⟨ρ, env, S, h1, h2, hp⟩ := h
    refine TD.of h1 h2 (Post.mono (Post.bind hp) fun u S1 ρ1 H1 e1 s1 k1 _ _ x hx => ?_)
    refine TDs.of (h1.ext h2 e1) s1 (Post.mono (Post.bind k1) fun us S2 ρ2 H2 e2 s2 k2 _ _ xs hxs => ?_)
    exact k2.here s2 (x :: xs) ⟨x, xs, rfl, RU.ext s1 e2 _ _ hx, hxs⟩
theorem kw_all {pos : Pos} {env : Env} : ∀ {kws : List Keyword} {ks : List Str}, kws.map (·.arg) = ks.map some → (backToKw pos (keywordEach kws env)).all (·.1.isSome) = true ∧ (backToKw pos (keywordEach kws env)).filterMap (·.1) = ks ∧ (backToKw pos (keywordEach kws env)).any (·.1.isNone) = false
  | [], [], _ => ⟨rfl, rfl, rfl⟩
  | [], _ :: _, h => by simp at h
  | _ :: _, [], h => by simp at h
  | ⟨a, v, p⟩ :: kws, k :: ks, h => by
    rw [List.map_cons, List.map_cons] at h
    injection h with h1 h2
    have h1 : a = some k := h1
    subst h1
    obtain ⟨i1, i2, i3⟩ := kw_all (pos := pos) (env := env) h2
    unfold backToKw at i1 i2 i3 ⊢
    simp only [keywordEach, List.map_cons]
    refine ⟨?_, ?_, ?_⟩
    · rw [List.all_cons, i1]; rfl
    · rw [List.filterMap_cons]; simp only; rw [i2]
    · rw [List.any_cons, i3]; rfl
theorem run_kw {F : Fx} {W : WX} {n k : Nat} {f : List U → Sto → R U} {fa : Addr} {fd : FuncData} {ps ks : List Str} {pins : List (Addr × Obj)} {σ : L2.St} {H : Hp} {s : Shared} {Q : VK} {us ws : List Value} {vs zs : List V}
    (FO : FnOk X.prog X.w X.K X.mg X.base (L2.CX X.prog X.w) k fa fd ps (spF F n f)) (hr : Room k X.A) (hb : Plain fd ps) (nd : ps.Nodup) (hks : ks = ps.drop us.length) (tk : Takes X W)
    (I : Inv X pins σ H s) (r : Vals vs us) (rz : Vals zs ws) (h : spF F n f (vs ++ zs) H Q (WE W σ)) : wpAny (model X.prog X.w) X.A (call (.ref fa) us (ks.zip ws)) (EP X pins σ Q) X.xe s := by
  have hl := FO.len _ _ _ _ h
  rw [List.length_append, r.length, rz.length] at hl
  have hcode := FO.run X.A X.stack s H ⟨us, ks.zip ws⟩ (us ++ ws) (vs ++ zs) Q (WE W σ) hr I.env0 (.of_eq (bind_plain hb nd hks hl)) (r.append rz) h
  refine wpAny_call (codeAny_mono hcode fun res s' hres => ?_)
  rcases res with e | fl
  · exact passAt tk σ pins H s e s' I hres
  · cases fl with
    | ret u => exact I.after hres
    | next => exact hres.elim
    | brk => exact hres.elim
    | cont => exact hres.elim
theorem de_callK0 {F : Fx} {W : WX} {n k : Nat} {f : List U → Sto → R U} {dz : Den (List U)} {x : Str} {p pos : Pos} {kws : List Keyword} {fa : Addr} {fd : FuncData} {ps : List Str} (hn : ∀ us S, us.length ≠ n → f us S = .stuck)
    (FO : FnOk X.prog X.w X.K X.mg X.base (L2.CX X.prog X.w) k fa fd ps (spF F n f)) (hr : Room k X.A) (hg : Gl X x) (hm : X.mg x = some (.ref fa)) (hk : PySem.W.keepIn X.K (.ref fa) = true) (hb : Plain fd ps) (nd : ps.Nodup) (tk : Takes X W)
    (hz : PK X kws (TDs (F.cn W) dz)) (hks : kws.map (·.arg) = ps.map some) (hdb : (x == ("__debug__" : Str)) = false) :
    PE X (.Call (.Name x p) [] kws pos) (TD (F.cn W) (dCall2 f dNil dz)) := by
  constructor
  intro pins s σ H Q I h
  obtain ⟨k1, k2, k3⟩ := kw_all (pos := pos) (env := X.env) hks
  refine wpAny_Call_Name_kw (ld_glob I hg hm ?_ hdb)
  refine PySem.W.callWith_KW0 (h₀ := X.base) (first := []) I.ok.mod.kin hk k1 ?_ (by rw [k3]; rfl)
  have main : TDs (F.cn W) dz σ H fun zs H2 => spF F n f zs H2 Q (WE W σ) := by
    obtain ⟨ρ, env, S, h1, h2, hp⟩ := h
    have hp2 : Post (F.cn W) ((dz env S).bind fun ws S2 => f ws S2) ρ H σ _ := hp
    refine TDs.of h1 h2 (Post.mono (Post.bind hp2) fun ws S2 ρ2 H2 e2 s2 k2 _ _ zs hzs => ⟨ρ2, S2, ws, s2, hzs, ?_, PostF.of k2⟩)
    by_cases e : ws.length = n
    · exact e
    · rw [hn _ S2 e] at k2; exact k2.elim
  refine wpAny_mono (hz.run pos pins s σ H _ I main) (fun ws s2 hh => ?_) fun _ _ z => z
  obtain ⟨zs, H2, I2, rz, q2⟩ := hh
  refine ⟨I2.kIn, ?_⟩
  rw [k2]
  exact run_kw (us := []) (vs := []) FO hr hb nd rfl tk I2 .nil rz q2
theorem de_callK {F : Fx} {W : WX} {n k : Nat} {f : List U → Sto → R U} {ds dz : Den (List U)} {x : Str} {p pos : Pos} {e : Expr} {es : List Expr} {kws : List Keyword} {fa : Addr} {fd : FuncData} {ps : List Str} (hn : ∀ us S, us.length ≠ n → f us S = .stuck)
    (FO : FnOk X.prog X.w X.K X.mg X.base (L2.CX X.prog X.w) k fa fd ps (spF F n f)) (hr : Room k X.A) (hg : Gl X x) (hm : X.mg x = some (.ref fa)) (hk : PySem.W.keepIn X.K (.ref fa) = true) (hb : Plain fd ps) (nd : ps.Nodup) (tk : Takes X W)
    (ha : PA X (e :: es) (TDs (F.cn W) ds)) (hz : PK X kws (TDs (F.cn W) dz)) (hks : kws.map (·.arg) = (ps.drop (es.length + 1)).map some) (hdb : (x == ("__debug__" : Str)) = false) (hns : (e :: es).all (fun e => !starred e) = true) (hlen : ∀ env S us S', ds env S = .ok us S' → us.length = es.length + 1) :
    PE X (.Call (.Name x p) (e :: es) kws pos) (TD (F.cn W) (dCall2 f ds dz)) := by
  constructor
  intro pins s σ H Q I h
  obtain ⟨k1, k2, k3⟩ := kw_all (pos := pos) (env := X.env) hks
  have body : ∀ (us : List Value) (s1 : Shared) (vs : List V) (H1 : Hp), us.length = es.length + 1 → Inv X pins σ H1 s1 → Vals vs us → (TDs (F.cn W) dz σ H1 fun zs H2 => spF F n f (vs ++ zs) H2 Q (WE W σ)) →
      wpAny (model X.prog X.w) X.A (evalAll ((backToKw pos (keywordEach kws X.env)).map (·.2))) (fun ws s2 => X.K.In s2.heap ∧ wpAny (model X.prog X.w) X.A (call (.ref fa) us (((backToKw pos (keywordEach kws X.env)).filterMap (·.1)).zip ws)) (EP X pins σ Q) X.xe s2) X.xe s1 :=
    fun us s1 vs H1 hl I1 r q => wpAny_mono (hz.run pos pins s1 σ H1 _ I1 q) (fun ws s2 hh => by
      obtain ⟨zs, H2, I2, rz, q2⟩ := hh
      refine ⟨I2.kIn, ?_⟩
      rw [k2]
      exact run_kw FO hr hb nd (by rw [hl]) tk I2 r rz q2) fun _ _ z => z
  have main : TDs (F.cn W) ds σ H fun vs H1 => vs.length = es.length + 1 ∧ TDs (F.cn W) dz σ H1 fun zs H2 => spF F n f (vs ++ zs) H2 Q (WE W σ) := by
    obtain ⟨ρ, env, S, h1, h2, hp⟩ := h
    have hq := Post.bind hp
    refine ⟨ρ, env, S, h1, h2, ?_⟩
    cases q0 : ds env S with
    | stuck => rw [q0] at hq; exact hq
    | exc c u S1 => rw [q0] at hq; exact hq
    | ok us S1 =>
      rw [q0] at hq
      intro ρ1 H1 e1 s1 xs hx
      have k1 := hq ρ1 H1 e1 s1
      refine ⟨by rw [← hx.length]; exact hlen _ _ _ _ q0, TDs.of (h1.ext h2 e1) s1 (Post.mono (Post.bind k1) fun ws S2 ρ2 H2 e2 s2 k2 _ _ zs hzs => ⟨ρ2, S2, us ++ ws, s2, (RUs.ext s1 e2 _ _ hx).append hzs, ?_, PostF.of k2⟩)⟩
      by_cases e : (us ++ ws).length = n
      · exact e
      · rw [hn _ S2 e] at k2; exact k2.elim
  refine wpAny_Call_Name_kw (ld_glob I hg hm ?_ hdb)
  have n1 : starred e = false := by rw [List.all_cons, Bool.and_eq_true] at hns; simpa using hns.1
  refine PySem.W.callWith_KW (h₀ := X.base) (first := []) I.ok.mod.kin hk k1 (wpAny_mono (ha.run pos pins s σ H _ I main) (fun us s1 hh => ?_) fun _ _ z => z) (by rw [k3, back_any hns]; rfl) (starEach_cons n1)
  obtain ⟨vs, H1, I1, r, hl, q⟩ := hh
  exact body us s1 vs H1 (by rw [← r.length]; exact hl) I1 r q
end
end Bq

set_option linter.all false
set_option maxRecDepth 100000
set_option maxHeartbeats 4000000
/-! Bq14: the intermediate language and what it does. -/
namespace Bq
open PySem
open PySem.Spec
open PyProof.Rows
open L2
inductive G where
  | int (i : Int) | str (s : List Nat)
  deriving DecidableEq, Inhabited
def G.u : G → U
  | .int i => .int i
  | .str s => .str s
inductive Bi where
  | len | list | tuple | int | str | ord | abs | sum | max | min | all | any | sorted | isi
  deriving DecidableEq, Inhabited
inductive Mt where
  | append | extend | pop | join | split | starts | count
  deriving DecidableEq, Inhabited
def Bi.nm : Bi → Str
  | .len => "len" | .list => "list" | .tuple => "tuple" | .int => "int" | .str => "str" | .ord => "ord" | .abs => "abs" | .sum => "sum" | .max => "max" | .min => "min" | .all => "all" | .any => "any" | .sorted => "sorted" | .isi => "isinstance"
def Bi.val : Bi → Value
  | .len => .builtin "len" | .list => .type "list" | .tuple => .type "tuple" | .int => .type "int" | .str => .type "str" | .ord => .builtin "ord" | .abs => .builtin "abs" | .sum => .builtin "sum" | .max => .builtin "max" | .min => .builtin "min"
  | .all => .builtin "all" | .any => .builtin "any" | .sorted => .builtin "sorted" | .isi => .builtin "isinstance"
def Bi.f : Bi → OpN
  | .len => lenF | .list => listF | .tuple => tupleF | .int => intF | .str => strF | .ord => ordF | .abs => absF | .sum => sumF | .max => maxF | .min => minF | .all => allF | .any => anyF | .sorted => sortedF | .isi => isiF
def Mt.nm : Mt → Str
  | .append => "append" | .extend => "extend" | .pop => "pop" | .join => "join" | .split => "split" | .starts => "startswith" | .count => "count"
def Mt.T : Mt → String
  | .append => "list" | .extend => "list" | .pop => "list" | .join => "str" | .split => "str" | .starts => "str" | .count => "list"
def Mt.id : Mt → String
  | .append => "list.append" | .extend => "list.extend" | .pop => "list.pop" | .join => "str.join" | .split => "str.split" | .starts => "str.startswith" | .count => "list.count"
def Mt.f : Mt → OpM
  | .append => appendF | .extend => extendF | .pop => popF | .join => joinF | .split => splitF | .starts => startsF | .count => countF
mutual
inductive E where
  | var (i : Nat) | int (i : Int) | bl (b : Bool) | non | str (s : List Nat) | ty (n : String) | gl (x : Str) (g : G)
  | tup (es : EL) | lst (es : EL) | bin (op : Operator) (a b : E) | neg (a : E) | inv (a : E) | cmp (op : CmpOp) (a b : E) | chn (op op' : CmpOp) (a b c : E)
  | and (es : EL) | or (es : EL) | not (a : E) | ite (c a b : E) | ix (a b : E) | sl (a : E) (lo hi : EO)
  | call (f : Nat) (es : EL) | callk (f : Nat) (es ks : EL) | bi (b : Bi) (es : EL) | mt (m : Mt) (o : E) (es : EL) | bits (o : E)
  | comp (own : List Nat) (g : Tg) (it : It) (ifs : EO) (el : E) | stuck
inductive EL where
  | nil | cons (e : E) (es : EL)
inductive EO where
  | no | so (e : E)
inductive Tg where
  | nm (i : Nat) | tp (ts : TL) | sb (o i : E)
inductive TL where
  | nil | cons (t : Tg) (ts : TL)
inductive It where
  | sq (e : E) | rg1 (a : E) | rg2 (a b : E) | rg3 (a b c : E) | en (es : EL) | zp (a b : E)
end
def EL.ofL : List E → EL
  | [] => .nil
  | e :: es => .cons e (ofL es)
def TL.ofL : List Tg → TL
  | [] => .nil
  | e :: es => .cons e (ofL es)
mutual
inductive St where
  | ret (e : E) | retN | ex (e : E) | as (t : Tg) (e : E) | par (i j : Nat) (a b : E) | ite (c : E) (a b : SL) | for (t : Tg) (it : It) (b : SL) | whl (c : E) (b : SL) | pass | brk | ctn | stuck
inductive SL where
  | nil | cons (s : St) (ss : SL)
end
def SL.ofL : List St → SL
  | [] => .nil
  | e :: es => .cons e (ofL es)
abbrev CF := Nat → List U → Sto → R U
def TL.len : TL → Nat
  | .nil => 0
  | .cons _ ts => ts.len + 1
def EL.len : EL → Nat
  | .nil => 0
  | .cons _ ts => ts.len + 1
mutual
def Tg.sl : Tg → List Nat
  | .nm i => [i]
  | .tp ts => ts.sl
  | .sb _ _ => []
def TL.sl : TL → List Nat
  | .nil => []
  | .cons t ts => t.sl ++ ts.sl
end
def dVar (i : Nat) : Den U := fun env S => match env[i]? with | some (some u) => .ok u S | _ => .stuck
def dOk (u : U) : Den U := fun _ S => .ok u S
mutual
def ev (cf : CF) : E → Den U
  | .var i => dVar i
  | .int i => dOk (.int i)
  | .bl b => dOk (.bl b)
  | .non => dOk .non
  | .str s => dOk (.str s)
  | .ty n => dOk (.ty n)
  | .gl _ g => dOk g.u
  | .tup es => dTup (evL cf es)
  | .lst es => dLst (evL cf es)
  | .bin op a b => dBin (binF op) (ev cf a) (ev cf b)
  | .neg a => dUn negF (ev cf a)
  | .inv a => dUn invF (ev cf a)
  | .cmp op a b => dBin (cmpF op) (ev cf a) (ev cf b)
  | .chn op op' a b c => dChn (cmpF op) (cmpF op') (ev cf a) (ev cf b) (ev cf c)
  | .and es => evAnd cf es
  | .or es => evOr cf es
  | .not a => dNot (ev cf a)
  | .ite c a b => dIf (ev cf c) (ev cf a) (ev cf b)
  | .ix a b => dBin ixF (ev cf a) (ev cf b)
  | .sl a lo hi => dSl (ev cf a) (evO cf lo) (evO cf hi)
  | .call f es => dCall (cf f) (evL cf es)
  | .callk f es ks => dCall2 (cf f) (evL cf es) (evL cf ks)
  | .bi b es => dCallN b.f (evL cf es)
  | .mt m o es => dMth m.T m.f (ev cf o) (evL cf es)
  | .bits o => dUn bitsF (ev cf o)
  | .comp own g it ifs el => dComp (evI cf it) own (evG cf g) (evB cf ifs) (ev cf el)
  | .stuck => fun _ _ => .stuck
def evL (cf : CF) : EL → Den (List U)
  | .nil => dNil
  | .cons e es => dCons (ev cf e) (evL cf es)
def evAnd (cf : CF) : EL → Den U
  | .nil => fun _ _ => .stuck
  | .cons e .nil => ev cf e
  | .cons e es => dAnd (ev cf e) (evAnd cf es)
def evOr (cf : CF) : EL → Den U
  | .nil => fun _ _ => .stuck
  | .cons e .nil => ev cf e
  | .cons e es => dOr (ev cf e) (evOr cf es)
def evO (cf : CF) : EO → Den (Option Int)
  | .no => dNo
  | .so e => dPart (ev cf e)
def evB (cf : CF) : EO → Den Bool
  | .no => dYes
  | .so e => dB (ev cf e)
def evG (cf : CF) : Tg → DG
  | .nm i => gNm i
  | .tp ts => gTp (gLen ts.len (evGs cf ts))
  | .sb o i => gSb (ev cf o) (ev cf i)
def evGs (cf : CF) : TL → List U → Evn → Sto → GR
  | .nil => gNil'
  | .cons t ts => gCons' (evG cf t) (evGs cf ts)
def evI (cf : CF) : It → Den J
  | .sq e => jSeq (ev cf e)
  | .rg1 a => jArgs rgJ1 (dCons (ev cf a) dNil)
  | .rg2 a b => jArgs rgJ2 (dCons (ev cf a) (dCons (ev cf b) dNil))
  | .rg3 a b c => jArgs rgJ3 (dCons (ev cf a) (dCons (ev cf b) (dCons (ev cf c) dNil)))
  | .en es => jArgs enJ (evL cf es)
  | .zp a b => jArgs zpJ (dCons (ev cf a) (dCons (ev cf b) dNil))
end
def WF : Nat := 1000000000
mutual
def evS (cf : CF) : St → DS
  | .ret e => sRet (ev cf e)
  | .retN => fun _ S => .ret .non S
  | .ex e => sExpr (ev cf e)
  | .as t e => sAsg (ev cf e) (evG cf t)
  | .par i j a b => sPar i j (dCons (ev cf a) (dCons (ev cf b) dNil))
  | .ite c a b => sIf (ev cf c) (evSs cf a) (evSs cf b)
  | .for t it b => sFor (evI cf it) (evG cf t) (evSs cf b)
  | .whl c b => whileL (ev cf c) (evSs cf b) WF
  | .pass => sNext
  | .brk => fun env S => .brk env S
  | .ctn => fun env S => .ct env S
  | .stuck => fun _ _ => .stuck
def evSs (cf : CF) : SL → DS
  | .nil => sNext
  | .cons s ss => sSeq (evS cf s) (evSs cf ss)
end
structure Fn where
  nm : Str
  ps : List Str
  N : List Str
  b : SL
def SR.fin : SR → R U
  | .nx _ S => .ok .non S
  | .ret u S => .ok u S
  | .exc c u _ S => .exc c u S
  | _ => .stuck
def runF (cf : CF) (F : Fn) (us : List U) (S : Sto) : R U := (evSs cf F.b (us.map some ++ List.replicate (F.N.length - us.length) none) S).fin
def callF (T : List Fn) : Nat → CF
  | 0, _, _, _ => .stuck
  | k + 1, i, us, S => match T[i]? with
    | some F => if us.length = F.ps.length then runF (callF T k) F us S else .stuck
    | none => .stuck
theorem callF_len {T : List Fn} {k i : Nat} {F : Fn} (h : T[i]? = some F) : ∀ us S, us.length ≠ F.ps.length → callF T k i us S = .stuck := fun us S hn => by
  cases k with
  | zero => rfl
  | succ k => unfold callF; rw [h]; simp only; rw [if_neg hn]
end Bq

set_option linter.all false
set_option maxRecDepth 100000
set_option maxHeartbeats 4000000
/-! Bq15: does the text read as the intermediate language says? -/
namespace Bq
open PySem
open PySem.Spec
open PyProof.Rows
open L2
structure CE where
  N : List Str
  sc : Scope
  fb : Str → Bool
  fns : List (Str × List Str)
  fr : List Str
  gls : List (Str × G)
def isK (o : Option NameKind) (k : NameKind) : Bool := match o with
  | some j => decide (j = k)
  | none => false
theorem isK_ok {o : Option NameKind} {k : NameKind} (h : isK o k = true) : o = some k := by
  cases o with
  | none => cases h
  | some j => exact congrArg some (of_decide_eq_true h)
theorem isK_iff {o : Option NameKind} {k : NameKind} : (o == some k) = isK o k := by
  cases o <;> simp [isK] <;> rfl
def CE.kd (ce : CE) (x : Str) : Option NameKind := ce.sc.names.lookup x
def CE.at (ce : CE) (i : Nat) (x : Str) : Bool := decide (ce.N[i]? = some x)
def CE.vis (ce : CE) (x : Str) : Bool := isK (ce.kd x) .local || isK (ce.kd x) .cell || isK (ce.kd x) .free
def CE.loc (ce : CE) (x : Str) : Bool := isK (ce.kd x) .local || (isK (ce.kd x) .cell)
def CE.gi (ce : CE) (x : Str) : Bool := isK (ce.kd x) .globalImplicit && !(x == ("__debug__" : Str)) && !(x == ("__classdict__" : Str))
def CE.fre (ce : CE) (x : Str) : Bool := ce.gi x && decide (x ∈ ce.fr)
def ownOf (N : List Str) (own : List Nat) : List (Str × Nat) := own.map fun i => (N.getD i default, i)
theorem ownOf_snd (N : List Str) (own : List Nat) : (ownOf N own).map (·.2) = own := by
  unfold ownOf; rw [List.map_map]; exact List.map_id _
def CE.blk (ce : CE) (scope : Scope) : CE := { ce with sc := relS scope ce.sc, fb := fun x => scope.names.lookup x == some .cell }
/-- a name that may be bound: a cell only at the def's own level or the block's own -/
def tyNames : List String := ["int", "str", "bool", "tuple", "list", "dict"]
mutual
def chkE (ce : CE) : E → Expr → Bool
  | .var i, .Name x _ => ce.at i x && ce.vis x && !(x == ("__debug__" : Str)) && !(x == ("__classdict__" : Str))
  | .int i, .Constant (.int j) _ _ => decide (i = j)
  | .bl i, .Constant (.bool j) _ _ => decide (i = j)
  | .non, .Constant .none _ _ => true
  | .str s, .Constant (.str x) _ _ => decide (s = x.cps.toList)
  | .ty n, .Name x _ => ce.fre x && decide (n ∈ tyNames) && decide (x = Str.ofString n)
  | .gl x g, .Name y _ => ce.gi y && decide (x = y) && decide ((x, g) ∈ ce.gls)
  | .tup es, .Tuple xs _ _ => chkL ce es xs
  | .lst es, .List xs _ => chkL ce es xs
  | .bin op a b, .BinOp x op' y _ => decide (op = op') && chkE ce a x && chkE ce b y
  | .neg a, .UnaryOp .USub x _ => chkE ce a x
  | .inv a, .UnaryOp .Invert x _ => chkE ce a x
  | .cmp op a b, .Compare x [op'] [y] _ => decide (op = op') && chkE ce a x && chkE ce b y && !isSet y
  | .chn o1 o2 a b c, .Compare x [p1, p2] [y, z] _ => decide (o1 = p1) && decide (o2 = p2) && chkE ce a x && chkE ce b y && chkE ce c z && !isSet z
  | .and es, .BoolOp .And xs _ => chkT ce es xs
  | .or es, .BoolOp .Or xs _ => chkT ce es xs
  | .not a, .UnaryOp .Not x _ => chkE ce a x && tst a
  | .ite c a b, .IfExp x y z _ => chkE ce c x && chkE ce a y && chkE ce b z && tst c
  | .ix a b, .Subscript x y _ => chkE ce a x && chkE ce b y && plainIx y
  | .sl a lo hi, .Subscript x (.Slice l h none _) _ => chkE ce a x && chkO ce lo l && chkO ce hi h
  | .call f es, .Call (.Name x _) xs [] _ => (match ce.fns[f]? with
      | some (y, ps) => decide (x = y) && ce.gi x
      | none => false) && chkL ce es xs && !xs.isEmpty
  | .callk f es ks, .Call (.Name x _) xs kws _ => (match ce.fns[f]? with
      | some (y, ps) => decide (x = y) && ce.gi x && decide (kws.map (·.arg) = (ps.drop xs.length).map some)
      | none => false) && chkL ce es xs && chkK ce ks kws
  | .bi b es, .Call (.Name x _) xs [] _ => decide (x = b.nm) && ce.fre x && chkL ce es xs && !xs.isEmpty
  | .mt m o es, .Call (.Attribute x a ap) xs [] cp => decide (a = m.nm) && chkE ce o x && chkL ce es xs && plainO x && decide (xs.length < 20) && (ap.endLine == cp.line)
  | .bits o, .Call (.Attribute x a ap) [] [] cp => decide (a = ("bit_length" : Str)) && chkE ce o x && plainO x && (ap.endLine == cp.line)
  | .comp own g it ifs el, .ListComp elt [⟨tg, iter, fs, as⟩] scope _ => chkI ce it tg iter && chkG (ce.blk scope) g tg && chkF (ce.blk scope) ifs fs && chkE (ce.blk scope) el elt && blkC ce.N ce.sc scope (ownOf ce.N own) && !isSet iter && g.sl.all (fun i => decide (i ∈ own)) && decide (as = 0)
  | .stuck, _ => true
  | _, _ => false
def chkL (ce : CE) : EL → List Expr → Bool
  | .nil, [] => true
  | .cons e es, x :: xs => chkE ce e x && chkL ce es xs && !starred x
  | _, _ => false
def chkK (ce : CE) : EL → List Keyword → Bool
  | .nil, [] => true
  | .cons e es, ⟨_, x, _⟩ :: xs => chkE ce e x && chkK ce es xs
  | _, _ => false
def chkT (ce : CE) : EL → List Expr → Bool
  | .cons e .nil, [x] => chkE ce e x && tst e
  | .cons e es, x :: xs => chkE ce e x && tst e && chkT ce es xs && !xs.isEmpty
  | _, _ => false
def chkO (ce : CE) : EO → Option Expr → Bool
  | .no, none => true
  | .so e, some x => chkE ce e x
  | _, _ => false
def chkF (ce : CE) : EO → List Expr → Bool
  | .no, [] => true
  | .so e, [x] => chkE ce e x && tst e
  | _, _ => false
def chkG (ce : CE) : Tg → Expr → Bool
  | .nm i, .Name x _ => ce.at i x && (isK (ce.kd x) .local || (isK (ce.kd x) .cell && ce.fb x))
  | .tp ts, .Tuple xs _ _ => chkGs ce ts xs
  | .sb o i, .Subscript x y _ => chkE ce o x && chkE ce i y && plainIx y
  | _, _ => false
def chkGs (ce : CE) : TL → List Expr → Bool
  | .nil, [] => true
  | .cons t ts, x :: xs => chkG ce t x && chkGs ce ts xs && !starred x
  | _, _ => false
def chkI (ce : CE) : It → Expr → Expr → Bool
  | .sq e, _, x => chkE ce e x
  | .rg1 a, _, .Call (.Name r _) [x] [] _ => decide (r = ("range" : Str)) && ce.fre r && chkE ce a x && !starred x
  | .rg2 a b, _, .Call (.Name r _) [x, y] [] _ => decide (r = ("range" : Str)) && ce.fre r && chkE ce a x && chkE ce b y && !starred x && !starred y
  | .rg3 a b c, _, .Call (.Name r _) [x, y, z] [] _ => decide (r = ("range" : Str)) && ce.fre r && chkE ce a x && chkE ce b y && chkE ce c z && !starred x && !starred y && !starred z
  | .en es, .Tuple _ _ _, .Call (.Name r _) (x :: xs) [] _ => decide (r = ("enumerate" : Str)) && ce.fre r && chkL ce es (x :: xs)
  | .zp a b, .Tuple _ _ _, .Call (.Name r _) [x, y] [] _ => decide (r = ("zip" : Str)) && ce.fre r && chkE ce a x && chkE ce b y && !starred x && !starred y
  | _, _, _ => false
/-- may stand as a test -/
def tst : E → Bool
  | .ite _ _ _ => false
  | _ => true
end
def compSc : Expr → Option Scope
  | .ListComp _ _ s _ | .SetComp _ _ s _ | .DictComp _ _ _ s _ => some s
  | _ => none
def swB (e : Expr) (t : Expr) (sc : Scope) : Bool := match compSc e with
  | none => false
  | some scope => (match t with
    | .Name t pos => isK (sc.names.lookup t) .local && pos.line == e.pos.line && !(scope.names.any fun (n, k) => n == t && (k == .local || k == .cell))
    | _ => false)
theorem swB_ok {e t : Expr} {line : Nat} {env : Env} (hk : env.scope.kind = .function) : swapsWith e (some t) line env = pure (swB e t env.scope) := by
  have hb : env.blockKind = .function := by unfold Env.blockKind; rw [hk]; rfl
  cases e <;> cases t <;> first | rfl | (simp only [swapsWith, swB, compSc, hb, isK_iff, Env.kindOf]; rfl)
/-- the names of a swap, for sure or none for sure -/
def noSwB (ts : List Expr) (v : Expr) : Bool := match ts, v with
  | [.Tuple _ _ _], .Tuple _ _ _ => false
  | [.List _ _], .Tuple _ _ _ => false
  | _, _ => true
theorem noSwB_ok {t e : Expr} {env : Env} (h : noSwB [t] e = true) : swappedStores [t] e env = pure none := by
  cases t <;> cases e <;> first | rfl | cases h
/-- two tuples that are no swap: another length, targets that are no plain names, constants -/
def noSwB2 (ts vs : List Expr) (sc : Scope) : Bool :=
  if !(ts.length == 2 || ts.length == 3) || vs.length != ts.length then true else
  if vs.any starred then true else
  let line := (ts.head?.map (·.pos.line)).getD 0
  let names := ts.filterMap fun
    | .Name id pos => if isK (sc.names.lookup id) .local && pos.line == line then some id else none
    | _ => none
  if names.length != ts.length || names.eraseDups.length != names.length then true else
  vs.all (foldedForSure 8)
theorem filterMap_congr' {α β : Type} {f g : α → Option β} (h : ∀ x, f x = g x) (l : List α) : l.filterMap f = l.filterMap g := by
  have : f = g := funext h
  rw [this]
theorem any_star (vs : List Expr) : (vs.any fun | .Starred .. => true | _ => false) = vs.any starred := rfl
theorem noSwB2_ok {ts vs : List Expr} {k k2 : Nat} {p p2 : Pos} {env : Env} (hk : env.scope.kind = .function) (h : noSwB2 ts vs env.scope = true) : swappedStores [.Tuple ts k p] (.Tuple vs k2 p2) env = pure none := by
  have hb : env.blockKind = .function := by unfold Env.blockKind; rw [hk]; rfl
  unfold noSwB2 at h
  unfold swappedStores
  simp only [Env.kindOf, isK_iff, hb, pure_bind]
  simp only [bne_self_eq_false, Bool.or_false]
  split at h
  · rename_i q; exact if_pos q
  · rename_i q; refine (if_neg q).trans ?_
    split at h
    · rename_i q2; exact if_pos q2
    · rename_i q2; refine (if_neg q2).trans ?_
      simp only at h ⊢
      split at h
      · rename_i q3; exact if_pos q3
      · rename_i q3; exact (if_neg q3).trans (if_pos h)
def parB (x y : Str) (px py : Pos) (a b : Expr) (sc : Scope) : Bool :=
  !starred a && !starred b && isK (sc.names.lookup x) .local && isK (sc.names.lookup y) .local && py.line == px.line && !(x == y) && !([a, b].all (foldedForSure 8)) && !([a, b].all (constantsAlone 8))
theorem parB_ok {x y : Str} {px py pt p2 : Pos} {a b : Expr} {k k2 : Nat} {env : Env} (hk : env.scope.kind = .function) (h : parB x y px py a b env.scope = true) : swappedStores [.Tuple [.Name x px, .Name y py] k pt] (.Tuple [a, b] k2 p2) env = pure (some [x, y]) := by
  have hb : env.blockKind = .function := by unfold Env.blockKind; rw [hk]; rfl
  unfold parB at h
  simp only [Bool.and_eq_true, Bool.not_eq_true'] at h
  obtain ⟨⟨⟨⟨⟨⟨⟨h1, h2⟩, h3⟩, h4⟩, h5⟩, h6⟩, h7⟩, h8⟩ := h
  have hs : ([a, b].any starred) = false := by simp [h1, h2]
  have e1 : (Expr.Name x px).pos = px := rfl
  have h6' : x ≠ y := by simpa using h6
  have h6'' : (y == x) = false := by simpa using fun e => h6' e.symm
  unfold swappedStores
  simp only [any_star, Env.kindOf, isK_iff, hb, hs, List.filterMap_cons, List.head?_cons, Option.map_some, Option.getD_some, e1, h3, h4, h5, h7, h8]
  simp [List.eraseDups, List.eraseDupsBy, List.eraseDupsBy.loop, h6, h6'']
  intro hh
  exfalso
  rcases hh with q | q
  · exact Bool.noConfusion (h1.symm.trans (show starred a = true from q))
  · exact Bool.noConfusion (h2.symm.trans (show starred b = true from q))
mutual
def chkS (ce : CE) : St → Stmt → Bool
  | .ret e, .Return (some x) _ => chkE ce e x
  | .retN, .Return none _ => true
  | .ex e, .Expr x _ => chkE ce e x && (compSc x).isNone
  | .as t e, .Assign [tg] x _ => chkE ce e x && chkG ce t tg && !starred tg && (match swB x tg ce.sc with
      | false => noSwB [tg] x || (match tg, x with | .Tuple ts _ _, .Tuple vs _ _ => noSwB2 ts vs ce.sc | _, _ => false)
      | true => (match t, e with | .nm _, .comp _ _ _ _ _ => true | _, _ => false))
  | .par i j a b, .Assign [.Tuple [.Name x px, .Name y py] _ _] (.Tuple [u, v] _ _) _ => parB x y px py u v ce.sc && ce.at i x && ce.at j y && !(i == j) && chkE ce a u && chkE ce b v
  | .ite c a b, .If x ys zs _ => chkE ce c x && tst c && chkSs ce a ys && chkSs ce b zs
  | .for t it b, .For tg iter ys [] _ => chkI ce it tg iter && chkG ce t tg && chkSs ce b ys && !isSet iter
  | .whl c b, .While x ys [] _ => chkE ce c x && tst c && chkSs ce b ys
  | .pass, .Pass _ => true
  | .brk, .Break _ => true
  | .ctn, .Continue _ => true
  | .stuck, _ => true
  | _, _ => false
def chkSs (ce : CE) : SL → List Stmt → Bool
  | .nil, [] => true
  | .cons s ss, x :: xs => chkS ce s x && chkSs ce ss xs
  | _, _ => false
end
end Bq

set_option linter.all false
set_option maxRecDepth 100000
set_option maxHeartbeats 4000000
/-! Bq16: what is checked runs as the intermediate language says: expressions. -/
namespace Bq
open PySem
open PySem.Spec
open PyProof.Rows
open L2
theorem Bi.ok {X : Cx} {C : Cn} (hK : X.K = C.K) (hc : X.calm = true) : ∀ b : Bi, CallR X b.val (rOwnN C b.f)
  | .len => ol_len hK | .list => ol_list hK hc | .tuple => ol_tuple hK | .int => ol_int | .str => ol_str | .ord => ol_ord | .abs => ol_abs | .sum => ol_sum hK hc | .max => ol_max hK hc | .min => ol_min hK hc
  | .all => ol_all hK hc | .any => ol_any hK hc | .sorted => ol_sorted hK | .isi => ol_isi hK
theorem Bi.boot : ∀ b : Bi, bootBuiltins b.nm = some b.val := by intro b; cases b <;> rfl
theorem Bi.nn : ∀ b : Bi, b.nm ≠ "__name__" := by intro b; cases b <;> decide
theorem Mt.ok {X : Cx} {C : Cn} (hK : X.K = C.K) : ∀ m : Mt, MtR X m.id (rOwnM C m.f)
  | .append => om_append | .extend => om_extend | .pop => om_pop | .join => om_join hK | .split => om_split | .starts => om_starts | .count => om_count hK
def G.v : G → V
  | .int i => .int i
  | .str s => .str (mkS s)
structure GX (X : Cx) (F : Fx) (W : WX) (ce : CE) (cf : CF) (k : Nat) : Prop where
  hK : X.K = F.K
  hu : X.A.units + 64 < cLine
  N : X.N = ce.N
  nd : ce.N.Nodup
  sc : X.env.scope = ce.sc
  kd : ce.sc.kind = .function
  fn : ∀ x, ce.fb x = true → X.fn x = true
  calm : X.calm = true
  tk : Takes X W
  room : Room k X.A
  fre : ∀ x ∈ ce.fr, X.mg x = none
  gls : ∀ x g, (x, g) ∈ ce.gls → ∃ u, X.mg x = some u ∧ RelV g.v u
  fns : ∀ f x ps, ce.fns[f]? = some (x, ps) → ∃ (fa : Addr) (fd : FuncData), X.mg x = some (.ref fa) ∧ PySem.W.keepIn X.K (.ref fa) = true ∧ Binds X.K fd ps [] ∧ Plain fd ps ∧ ps.Nodup ∧
    FnOk X.prog X.w X.K X.mg X.base (L2.CX X.prog X.w) k fa fd ps (spF F ps.length (cf f)) ∧ ∀ us S, us.length ≠ ps.length → cf f us S = .stuck
def W0 : WX := fun _ _ _ _ => False
theorem takes_none {X : Cx} : Takes X W0 := fun u s' ⟨_, _, _, _, _, _, _, _, _, _, _, _, _, _, _, _, w⟩ => w.elim
section
variable {X : Cx} {F : Fx} {W : WX} {ce : CE} {cf : CF} {k : Nat}
theorem GX.blk (g : GX X F W ce cf k) (scope : Scope) (hs : scope.kind = .function) (s : Shared) (H : Hp) (A : Addr) (cl : List (Str × Addr)) (fp : List Addr) : GX (blkX X scope s H A cl fp) F W0 (ce.blk scope) cf k where
  hK := g.hK
  hu := g.hu
  N := g.N
  nd := g.nd
  sc := by show relS scope X.env.scope = relS scope ce.sc; rw [g.sc]
  kd := hs
  fn := fun x h => h
  calm := g.calm
  tk := takes_none
  room := g.room
  fre := g.fre
  gls := g.gls
  fns := g.fns
theorem Post.mute {α : Type} {r : R α} {ρ : List Addr} {H : Hp} {σ : L2.St} {Q : α → Sto → List Addr → Hp → Prop} (h : Post (F.cn W).mute r ρ H σ Q) : Post (F.cn W0) r ρ H σ Q := by
  cases r with
  | ok a S => exact h
  | exc c u S => exact fun ρ' H' e s => (h ρ' H' e s).elim
  | stuck => exact h
theorem PE.mute {e : Expr} {d : Den U} (h : PE X e (TD (F.cn W0) d)) : PE X e (TD (F.cn W).mute d) := h.imp fun σ H Q ⟨ρ, env, S, a, b, c⟩ => ⟨ρ, env, S, a, b, c.mute⟩
theorem PT.mute {e : Expr} {d : Den Bool} (h : PT X e (TDb (F.cn W0) d)) : PT X e (TDb (F.cn W).mute d) := h.imp fun σ H Q ⟨ρ, env, S, a, b, c⟩ => ⟨ρ, env, S, a, b, c.mute⟩
theorem PTs.mute {e : List Expr} {d : Den Bool} (h : PTs X e (TDb (F.cn W0) d)) : PTs X e (TDb (F.cn W).mute d) := h.imp fun σ H Q ⟨ρ, env, S, a, b, c⟩ => ⟨ρ, env, S, a, b, c.mute⟩
theorem PG.mute {e : Expr} {sl : List Nat} {d : DG} (h : PG X e (TDg (F.cn W0) sl d)) : PG X e (TDg (F.cn W).mute sl d) := h
theorem vis_ok (g : GX X F W ce cf k) {x : Str} (h : ce.vis x = true) : Vis X.env.scope x := by
  unfold CE.vis CE.kd at h
  simp only [Bool.or_eq_true] at h
  unfold Vis
  rw [g.sc]
  rcases h with (h | h) | h
  · exact .inl (isK_ok h)
  · exact .inr (.inl (isK_ok h))
  · exact .inr (.inr (isK_ok h))
theorem gi_ok (g : GX X F W ce cf k) {x : Str} (h : ce.gi x = true) : Gl X x ∧ (x == ("__debug__" : Str)) = false := by
  unfold CE.gi CE.kd at h
  simp only [Bool.and_eq_true, Bool.not_eq_true'] at h
  refine ⟨?_, h.1.2⟩
  unfold Gl Env.kindOf
  rw [g.sc]
  exact isK_ok h.1.1
theorem fre_ok (g : GX X F W ce cf k) {x : Str} (h : ce.fre x = true) : Gl X x ∧ X.mg x = none ∧ (x == ("__debug__" : Str)) = false := by
  unfold CE.fre at h
  simp only [Bool.and_eq_true, decide_eq_true_eq] at h
  obtain ⟨a, b⟩ := gi_ok g h.1
  exact ⟨a, g.fre x h.2, b⟩
theorem at_ok (g : GX X F W ce cf k) {i : Nat} {x : Str} (h : ce.at i x = true) : X.N[i]? = some x := by
  rw [g.N]; exact of_decide_eq_true h
theorem chkL_len (ce : CE) : ∀ (es : EL) (xs : List Expr), chkL ce es xs = true → es.len = xs.length ∧ xs.all (fun e => !starred e) = true
  | .nil, [], _ => ⟨rfl, rfl⟩
  | .cons e es, x :: xs, h => by
    unfold chkL at h
    simp only [Bool.and_eq_true] at h
    obtain ⟨a, b⟩ := chkL_len ce es xs h.1.2
    refine ⟨by simp [EL.len, a], ?_⟩
    rw [List.all_cons, h.2, b]; rfl
  | .nil, _ :: _, h => by unfold chkL at h; cases h
  | .cons _ _, [], h => by unfold chkL at h; cases h
theorem evL_len (cf : CF) : ∀ (es : EL) (env : Evn) (S : Sto) (us : List U) (S' : Sto), evL cf es env S = .ok us S' → us.length = es.len
  | .nil, env, S, us, S', h => by
    unfold evL dNil at h
    cases h; rfl
  | .cons e es, env, S, us, S', h => by
    unfold evL dCons at h
    cases q : ev cf e env S with
    | ok u S1 =>
      rw [q] at h
      cases q2 : evL cf es env S1 with
      | ok ws S2 =>
        have h : R.ok (u :: ws) S2 = R.ok us S' := by have h := h; simp only [R.bind, q2] at h; exact h
        cases h
        simp [EL.len, evL_len cf es _ _ _ _ q2]
      | exc c u S2 => simp only [R.bind, q2] at h; cases h
      | stuck => simp only [R.bind, q2] at h; cases h
    | exc c u S1 => rw [q] at h; cases h
    | stuck => rw [q] at h; cases h
theorem chkGs_len (ce : CE) : ∀ (es : TL) (xs : List Expr), chkGs ce es xs = true → es.len = xs.length ∧ xs.all (fun e => !starred e) = true
  | .nil, [], _ => ⟨rfl, rfl⟩
  | .cons e es, x :: xs, h => by
    unfold chkGs at h
    simp only [Bool.and_eq_true] at h
    obtain ⟨a, b⟩ := chkGs_len ce es xs h.1.2
    refine ⟨by simp [TL.len, a], ?_⟩
    rw [List.all_cons, h.2, b]; rfl
  | .nil, _ :: _, h => by unfold chkGs at h; cases h
  | .cons _ _, [], h => by unfold chkGs at h; cases h
theorem nst {x : Expr} (h : (!starred x) = true) : starred x = false := by simpa using h
theorem ty_ok : ∀ n : String, n ∈ tyNames → bootBuiltins (Str.ofString n) = some (.type n) ∧ Str.ofString n ≠ "__name__" := by
  intro n h
  simp only [tyNames, List.mem_cons, List.not_mem_nil, or_false] at h
  rcases h with h | h | h | h | h | h <;> subst h <;> exact ⟨rfl, by decide⟩
abbrev SE (X : Cx) (F : Fx) (W : WX) (cf : CF) (e : E) (x : Expr) : Prop := PE X x (TD (F.cn W) (ev cf e)) ∧ (tst e = true → PT X x (TDb (F.cn W) (dB (ev cf e))))
/-- a plain expression, both ways -/
theorem SE.plain {e : E} {x : Expr} (h : PE X x (TD (F.cn W) (ev cf e))) (p : plainT x = true) : SE X F W cf e x := ⟨h, fun _ => dt_val h (t_plain p)⟩
structure OK (F : Fx) (cf : CF) (k n : Nat) : Prop where
  e : ∀ (e : E) (x : Expr) (X : Cx) (W : WX) (ce : CE), sizeOf e < n → GX X F W ce cf k → chkE ce e x = true → SE X F W cf e x
  l : ∀ (e : EL) (x : List Expr) (X : Cx) (W : WX) (ce : CE), sizeOf e < n → GX X F W ce cf k → chkL ce e x = true → PA X x (TDs (F.cn W) (evL cf e))
  kw : ∀ (e : EL) (x : List Keyword) (X : Cx) (W : WX) (ce : CE), sizeOf e < n → GX X F W ce cf k → chkK ce e x = true → PK X x (TDs (F.cn W) (evL cf e))
  an : ∀ (e : EL) (x : List Expr) (X : Cx) (W : WX) (ce : CE) (pos : Pos), sizeOf e < n → GX X F W ce cf k → chkT ce e x = true → PE X (.BoolOp .And x pos) (TD (F.cn W) (evAnd cf e)) ∧ PW X (.BoolOp .And x pos) (TDb (F.cn W) (dB (evAnd cf e)))
  or : ∀ (e : EL) (x : List Expr) (X : Cx) (W : WX) (ce : CE) (pos : Pos), sizeOf e < n → GX X F W ce cf k → chkT ce e x = true → PE X (.BoolOp .Or x pos) (TD (F.cn W) (evOr cf e)) ∧ PW X (.BoolOp .Or x pos) (TDb (F.cn W) (dB (evOr cf e)))
  o : ∀ (e : EO) (x : Option Expr) (X : Cx) (W : WX) (ce : CE), sizeOf e < n → GX X F W ce cf k → chkO ce e x = true → PO X x (TDo (F.cn W) (evO cf e))
  f : ∀ (e : EO) (x : List Expr) (X : Cx) (W : WX) (ce : CE), sizeOf e < n → GX X F W ce cf k → chkF ce e x = true → PTs X x (TDb (F.cn W) (evB cf e))
  g : ∀ (e : Tg) (x : Expr) (X : Cx) (W : WX) (ce : CE), sizeOf e < n → GX X F W ce cf k → chkG ce e x = true → PG X x (TDg (F.cn W) e.sl (evG cf e))
  gs : ∀ (e : TL) (x : List Expr) (X : Cx) (W : WX) (ce : CE), sizeOf e < n → GX X F W ce cf k → chkGs ce e x = true → PGs X x (TDgs (F.cn W) e.sl (evGs cf e))
  i : ∀ (e : It) (tg x : Expr) (X : Cx) (W : WX) (ce : CE), sizeOf e < n → GX X F W ce cf k → chkI ce e tg x = true → PI X tg x (TDi (F.cn W) (evI cf e))
theorem ok_e {n : Nat} (ih : OK F cf k n) (e : E) (x : Expr) (X : Cx) (W : WX) (ce : CE) (hs : sizeOf e < n + 1) (g : GX X F W ce cf k) (h : chkE ce e x = true) : SE X F W cf e x := by
  unfold chkE at h
  split at h
  all_goals try simp only [Bool.and_eq_true, Bool.not_eq_true', decide_eq_true_eq] at h
  all_goals try simp only [E.tup.sizeOf_spec, E.lst.sizeOf_spec, E.bin.sizeOf_spec, E.neg.sizeOf_spec, E.inv.sizeOf_spec, E.cmp.sizeOf_spec, E.chn.sizeOf_spec, E.and.sizeOf_spec, E.or.sizeOf_spec, E.not.sizeOf_spec, E.ite.sizeOf_spec, E.ix.sizeOf_spec, E.sl.sizeOf_spec, E.call.sizeOf_spec, E.callk.sizeOf_spec, E.bi.sizeOf_spec, E.mt.sizeOf_spec, E.bits.sizeOf_spec, E.comp.sizeOf_spec] at hs
  · exact .plain (de_var (at_ok g h.1.1.1) (vis_ok g h.1.1.2) h.1.2 h.2) rfl
  · subst h; exact .plain de_int rfl
  · subst h; exact .plain de_bl rfl
  · exact .plain de_non rfl
  · exact .plain (de_str (by rw [h]; rfl)) rfl
  · rename_i n' x' p
    obtain ⟨⟨h1, h2⟩, h3⟩ := h
    obtain ⟨a, b, c⟩ := fre_ok g h1
    subst h3
    obtain ⟨d, e⟩ := ty_ok n' h2
    exact .plain (de_c (pe_bltn (v := .ty n') a b d rfl e c) fun _ _ => rfl) rfl
  · rename_i x' g' y p
    obtain ⟨⟨h1, h2⟩, h3⟩ := h
    obtain ⟨a, c⟩ := gi_ok g h1
    subst h2
    obtain ⟨u, d, e⟩ := g.gls _ _ h3
    exact .plain (de_c (pe_glob a d e c) fun _ _ => by cases g' <;> rfl) rfl
  · exact .plain (de_tup (ih.l _ _ X W ce (by omega) g h)) rfl
  · exact .plain (de_lst (ih.l _ _ X W ce (by omega) g h)) rfl
  · obtain ⟨⟨h1, h2⟩, h3⟩ := h
    subst h1
    exact .plain (de_op (ob_bin (C := F.cn W) g.hK _) (ih.e _ _ X W ce (by omega) g h2).1 (ih.e _ _ X W ce (by omega) g h3).1) rfl
  · exact .plain (de_un ob_neg (ih.e _ _ X W ce (by omega) g h).1) rfl
  · exact .plain (de_un ob_inv (ih.e _ _ X W ce (by omega) g h).1) rfl
  · obtain ⟨⟨⟨h1, h2⟩, h3⟩, h4⟩ := h
    subst h1
    have a := (ih.e _ _ X W ce (by omega) g h2).1
    have b := (ih.e _ _ X W ce (by omega) g h3).1
    exact ⟨de_cmp (oc_all (C := F.cn W) g.hK g.hu _) a b (mark_plain h4), fun _ => dt_cmp (oc_all (C := F.cn W) g.hK g.hu _) a b (mark_plain h4)⟩
  · obtain ⟨⟨⟨⟨⟨h1, h2⟩, h3⟩, h4⟩, h5⟩, h6⟩ := h
    subst h1 h2
    have a := (ih.e _ _ X W ce (by omega) g h3).1
    have b := (ih.e _ _ X W ce (by omega) g h4).1
    have c := (ih.e _ _ X W ce (by omega) g h5).1
    exact ⟨de_chn (oc_all (C := F.cn W) g.hK g.hu _) (oc_all (C := F.cn W) g.hK g.hu _) a b c h6, fun _ => dt_chn (oc_all (C := F.cn W) g.hK g.hu _) (oc_all (C := F.cn W) g.hK g.hu _) a b c h6⟩
  · obtain ⟨a, b⟩ := ih.an _ _ X W ce ‹_› (by omega) g h
    exact ⟨a, fun _ => b.pt⟩
  · obtain ⟨a, b⟩ := ih.or _ _ X W ce ‹_› (by omega) g h
    exact ⟨a, fun _ => b.pt⟩
  · have a := ih.e _ _ X W ce (by omega) g h.1
    exact ⟨de_not a.1, fun _ => dt_not (a.2 h.2)⟩
  · obtain ⟨⟨⟨h1, h2⟩, h3⟩, h4⟩ := h
    exact ⟨de_if ((ih.e _ _ X W ce (by omega) g h1).2 h4) (ih.e _ _ X W ce (by omega) g h2).1 (ih.e _ _ X W ce (by omega) g h3).1, fun q => by cases q⟩
  · exact .plain (de_ix (oi_ix (C := F.cn W) g.hK) (ih.e _ _ X W ce (by omega) g h.1.1).1 (ih.e _ _ X W ce (by omega) g h.1.2).1 (ix_plain h.2)) rfl
  · exact .plain (de_sl (C := F.cn W) g.hK (ih.e _ _ X W ce (by omega) g h.1.1).1 (ih.o _ _ X W ce (by omega) g h.1.2) (ih.o _ _ X W ce (by omega) g h.2)) rfl
  · rename_i f' es x' p xs pos
    obtain ⟨⟨h1, h2⟩, h3⟩ := h
    split at h1
    · rename_i y ps hf
      simp only [Bool.and_eq_true, decide_eq_true_eq] at h1
      obtain ⟨h1, h4⟩ := h1
      subst h1
      obtain ⟨fa, fd, m1, m2, m3, m4, m5, m6, m7⟩ := g.fns _ _ _ hf
      obtain ⟨a, b⟩ := gi_ok g h4
      obtain ⟨l1, l2⟩ := chkL_len ce _ _ h2
      have hl := ih.l _ _ X W ce (by omega) g h2
      cases xs with
      | nil => cases h3
      | cons e es => exact .plain (de_call m7 m6 g.room a m1 m2 m3 g.tk hl b l2) rfl
    · cases h1
  · rename_i f' es ks x' p xs kws pos
    obtain ⟨⟨h1, h2⟩, h3⟩ := h
    split at h1
    · rename_i y ps hf
      simp only [Bool.and_eq_true, decide_eq_true_eq] at h1
      obtain ⟨⟨h1, h4⟩, h5⟩ := h1
      subst h1
      obtain ⟨fa, fd, m1, m2, m3, m4, m5, m6, m7⟩ := g.fns _ _ _ hf
      obtain ⟨a, b⟩ := gi_ok g h4
      obtain ⟨l1, l2⟩ := chkL_len ce _ _ h2
      have hl := ih.l _ _ X W ce (by omega) g h2
      have hk := ih.kw _ _ X W ce (by omega) g h3
      cases xs with
      | nil =>
        cases es with
        | nil => exact .plain (de_callK0 m7 m6 g.room a m1 m2 m4 m5 g.tk hk h5 b) rfl
        | cons _ _ => cases l1
      | cons e es' => exact .plain (de_callK m7 m6 g.room a m1 m2 m4 m5 g.tk hl hk h5 b l2 fun env S us S' q => by rw [evL_len _ _ _ _ _ _ q, l1]; rfl) rfl
    · cases h1
  · obtain ⟨⟨⟨h1, h2⟩, h3⟩, h4⟩ := h
    subst h1
    obtain ⟨a, b, c⟩ := fre_ok g h2
    obtain ⟨l1, l2⟩ := chkL_len ce _ _ h3
    have hl := ih.l _ _ X W ce (by omega) g h3
    rename_i b' es _ xs _
    cases xs with
    | nil => cases h4
    | cons e es =>
      rw [List.all_cons, Bool.and_eq_true] at l2
      refine .plain ?_ rfl
      have hc := Bi.ok (C := F.cn W) g.hK g.calm b'
      have hv := Bi.boot b'
      have hn := Bi.nn b'
      cases b' <;> first | exact de_callB hc a b hv hl hn c (starEach_cons (nst l2.1)) (back_any l2.2) | exact de_callTy hc a b hv hl hn c (starEach_cons (nst l2.1)) (back_any l2.2)
  · obtain ⟨⟨⟨⟨⟨h1, h2⟩, h3⟩, h4⟩, h5⟩, h6⟩ := h
    subst h1
    obtain ⟨l1, l2⟩ := chkL_len ce _ _ h3
    have hl := ih.l _ _ X W ce (by omega) g h3
    have ho := (ih.e _ _ X W ce (by omega) g h2).1
    rename_i m o es x' ap xs cp
    refine .plain ?_ rfl
    have hm := Mt.ok (C := F.cn W) g.hK m
    cases xs with
    | nil =>
      cases es with
      | cons _ _ => cases l1
      | nil =>
        cases m <;> first
          | exact de_m0 (C := F.cn W) g.hK PySem.F.plainAttrs_list PySem.F.slot_list_append PySem.F.type_list_append hm ho h4 h6
          | exact de_m0 (C := F.cn W) g.hK PySem.F.plainAttrs_list PySem.F.slot_list_extend PySem.F.type_list_extend hm ho h4 h6
          | exact de_m0 (C := F.cn W) g.hK PySem.F.plainAttrs_list PySem.F.slot_list_pop PySem.F.type_list_pop hm ho h4 h6
          | exact de_m0 (C := F.cn W) g.hK PySem.F.plainAttrs_list PySem.F.slot_list_count PySem.F.type_list_count hm ho h4 h6
          | exact de_m0 (C := F.cn W) g.hK PySem.F.plainAttrs_str PySem.F.slot_str_join PySem.F.type_str_join hm ho h4 h6
          | exact de_m0 (C := F.cn W) g.hK PySem.F.plainAttrs_str PySem.F.slot_str_split PySem.F.type_str_split hm ho h4 h6
          | exact de_m0 (C := F.cn W) g.hK PySem.F.plainAttrs_str PySem.F.slot_str_startswith PySem.F.type_str_startswith hm ho h4 h6
    | cons e es =>
        cases m <;> first
          | exact de_m (C := F.cn W) g.hK PySem.F.plainAttrs_list PySem.F.slot_list_append PySem.F.type_list_append hm ho hl h4 l2 h5 h6
          | exact de_m (C := F.cn W) g.hK PySem.F.plainAttrs_list PySem.F.slot_list_extend PySem.F.type_list_extend hm ho hl h4 l2 h5 h6
          | exact de_m (C := F.cn W) g.hK PySem.F.plainAttrs_list PySem.F.slot_list_pop PySem.F.type_list_pop hm ho hl h4 l2 h5 h6
          | exact de_m (C := F.cn W) g.hK PySem.F.plainAttrs_list PySem.F.slot_list_count PySem.F.type_list_count hm ho hl h4 l2 h5 h6
          | exact de_m (C := F.cn W) g.hK PySem.F.plainAttrs_str PySem.F.slot_str_join PySem.F.type_str_join hm ho hl h4 l2 h5 h6
          | exact de_m (C := F.cn W) g.hK PySem.F.plainAttrs_str PySem.F.slot_str_split PySem.F.type_str_split hm ho hl h4 l2 h5 h6
          | exact de_m (C := F.cn W) g.hK PySem.F.plainAttrs_str PySem.F.slot_str_startswith PySem.F.type_str_startswith hm ho hl h4 l2 h5 h6
  · obtain ⟨⟨⟨h1, h2⟩, h3⟩, h4⟩ := h
    subst h1
    exact .plain (de_bits (ih.e _ _ X W ce (by omega) g h2).1 h3 h4) rfl
  · obtain ⟨⟨⟨⟨⟨⟨⟨h1, h2⟩, h3⟩, h4⟩, h5⟩, h6⟩, h7⟩, h8⟩ := h
    subst h8
    refine .plain ?_ rfl
    rename_i own tg it fs el elt tgx iter fx scope pos
    have ok : BlkOk X.N X.env.scope scope (ownOf ce.N own) := by rw [g.N, g.sc]; exact blkOk_by h5
    have gb := fun s H A cl fp => g.blk scope ok.kind s H A cl fp
    have r := de_comp (pos := pos) (C := F.cn W) (own := ownOf ce.N own) g.calm (by rw [g.N]; exact g.nd) (ih.i _ _ _ X W ce (by omega) g h1) ok
      (fun s H A cl fp => PG.mute (ih.g _ _ _ W0 _ (by omega) (gb s H A cl fp) h2)) (fun s H A cl fp => PTs.mute (ih.f _ _ _ W0 _ (by omega) (gb s H A cl fp) h3))
      (fun s H A cl fp => PE.mute (ih.e _ _ _ W0 _ (by omega) (gb s H A cl fp) h4).1) h6 (by rw [ownOf_snd]; simpa [List.all_eq_true] using h7)
    rw [ownOf_snd] at r
    exact r
  · exact ⟨de_stuck, fun _ => ⟨fun pins s σ H Q I h => by
      obtain ⟨ρ, env, S, h1, h2, hp⟩ := h
      exact hp.elim⟩⟩
  · cases h
end
end Bq

set_option linter.all false
set_option maxRecDepth 100000
set_option maxHeartbeats 4000000
/-! Bq17: lists of expressions, targets, iterables, statements; defs. -/
namespace Bq
open PySem
open PySem.Spec
open PyProof.Rows
open L2
section
variable {F : Fx} {cf : CF} {k : Nat} {n : Nat}
theorem ok_l (ih : OK F cf k n) (e : EL) (x : List Expr) (X : Cx) (W : WX) (ce : CE) (hs : sizeOf e < n + 1) (g : GX X F W ce cf k) (h : chkL ce e x = true) : PA X x (TDs (F.cn W) (evL cf e)) := by
  cases e with
  | nil => cases x with
    | nil => exact des_nil
    | cons _ _ => cases h
  | cons e es => cases x with
    | nil => cases h
    | cons x xs =>
      simp only [chkL, Bool.and_eq_true] at h
      simp only [EL.cons.sizeOf_spec] at hs
      exact des_cons (ih.e _ _ X W ce (by omega) g h.1.1).1 (ih.l _ _ X W ce (by omega) g h.1.2) (starEach_cons (nst h.2))
theorem ok_kw (ih : OK F cf k n) (e : EL) (x : List Keyword) (X : Cx) (W : WX) (ce : CE) (hs : sizeOf e < n + 1) (g : GX X F W ce cf k) (h : chkK ce e x = true) : PK X x (TDs (F.cn W) (evL cf e)) := by
  cases e with
  | nil => cases x with
    | nil => exact dk_nil
    | cons _ _ => cases h
  | cons e es => cases x with
    | nil => cases h
    | cons x xs =>
      obtain ⟨a, v, p⟩ := x
      simp only [chkK, Bool.and_eq_true] at h
      simp only [EL.cons.sizeOf_spec] at hs
      exact dk_cons (ih.e _ _ X W ce (by omega) g h.1).1 (ih.kw _ _ X W ce (by omega) g h.2)
theorem ok_an (ih : OK F cf k n) (e : EL) (x : List Expr) (X : Cx) (W : WX) (ce : CE) (pos : Pos) (hs : sizeOf e < n + 1) (g : GX X F W ce cf k) (h : chkT ce e x = true) : PE X (.BoolOp .And x pos) (TD (F.cn W) (evAnd cf e)) ∧ PW X (.BoolOp .And x pos) (TDb (F.cn W) (dB (evAnd cf e))) := by
  cases e with
  | nil => cases x <;> cases h
  | cons e es => cases es with
    | nil => cases x with
      | nil => cases h
      | cons x xs => cases xs with
        | nil =>
          simp only [chkT, Bool.and_eq_true] at h
          simp only [EL.cons.sizeOf_spec] at hs
          obtain ⟨a, b⟩ := ih.e _ _ X W ce (by omega) g h.1
          exact ⟨pe_one a, pw_and1 (b h.2)⟩
        | cons y ys =>
          simp only [chkT, Bool.and_eq_true] at h
          exact absurd h.1.2 (by simp)
    | cons e2 es => cases x with
      | nil => cases h
      | cons x xs =>
        simp only [chkT, Bool.and_eq_true] at h
        simp only [EL.cons.sizeOf_spec] at hs
        obtain ⟨⟨⟨h1, h2⟩, h3⟩, h4⟩ := h
        cases xs with
        | nil => cases h4
        | cons y ys =>
          obtain ⟨a, b⟩ := ih.e _ _ X W ce (by omega) g h1
          obtain ⟨c, d⟩ := ih.an (.cons e2 es) _ X W ce pos (by simp only [EL.cons.sizeOf_spec]; omega) g h3
          exact ⟨de_and a c, dw_and (b h2) d⟩
theorem ok_or (ih : OK F cf k n) (e : EL) (x : List Expr) (X : Cx) (W : WX) (ce : CE) (pos : Pos) (hs : sizeOf e < n + 1) (g : GX X F W ce cf k) (h : chkT ce e x = true) : PE X (.BoolOp .Or x pos) (TD (F.cn W) (evOr cf e)) ∧ PW X (.BoolOp .Or x pos) (TDb (F.cn W) (dB (evOr cf e))) := by
  cases e with
  | nil => cases x <;> cases h
  | cons e es => cases es with
    | nil => cases x with
      | nil => cases h
      | cons x xs => cases xs with
        | nil =>
          simp only [chkT, Bool.and_eq_true] at h
          simp only [EL.cons.sizeOf_spec] at hs
          obtain ⟨a, b⟩ := ih.e _ _ X W ce (by omega) g h.1
          exact ⟨pe_one a, pw_or1 (b h.2)⟩
        | cons y ys =>
          simp only [chkT, Bool.and_eq_true] at h
          exact absurd h.1.2 (by simp)
    | cons e2 es => cases x with
      | nil => cases h
      | cons x xs =>
        simp only [chkT, Bool.and_eq_true] at h
        simp only [EL.cons.sizeOf_spec] at hs
        obtain ⟨⟨⟨h1, h2⟩, h3⟩, h4⟩ := h
        cases xs with
        | nil => cases h4
        | cons y ys =>
          obtain ⟨a, b⟩ := ih.e _ _ X W ce (by omega) g h1
          obtain ⟨c, d⟩ := ih.or (.cons e2 es) _ X W ce pos (by simp only [EL.cons.sizeOf_spec]; omega) g h3
          exact ⟨de_or a c, dw_or (b h2) d⟩
theorem ok_o (ih : OK F cf k n) (e : EO) (x : Option Expr) (X : Cx) (W : WX) (ce : CE) (hs : sizeOf e < n + 1) (g : GX X F W ce cf k) (h : chkO ce e x = true) : PO X x (TDo (F.cn W) (evO cf e)) := by
  cases e with
  | no => cases x with
    | none => exact do_none
    | some _ => cases h
  | so e => cases x with
    | none => cases h
    | some x =>
      simp only [chkO] at h
      simp only [EO.so.sizeOf_spec] at hs
      exact do_some (ih.e _ _ X W ce (by omega) g h).1
theorem ok_f (ih : OK F cf k n) (e : EO) (x : List Expr) (X : Cx) (W : WX) (ce : CE) (hs : sizeOf e < n + 1) (g : GX X F W ce cf k) (h : chkF ce e x = true) : PTs X x (TDb (F.cn W) (evB cf e)) := by
  cases e with
  | no => cases x with
    | nil => exact dts_nil
    | cons _ _ => cases h
  | so e => cases x with
    | nil => cases h
    | cons x xs => cases xs with
      | cons _ _ => cases h
      | nil =>
        simp only [chkF, Bool.and_eq_true] at h
        simp only [EO.so.sizeOf_spec] at hs
        exact dts_one ((ih.e _ _ X W ce (by omega) g h.1).2 h.2)
theorem ok_g (ih : OK F cf k n) (e : Tg) (x : Expr) (X : Cx) (W : WX) (ce : CE) (hs : sizeOf e < n + 1) (g : GX X F W ce cf k) (h : chkG ce e x = true) : PG X x (TDg (F.cn W) e.sl (evG cf e)) := by
  unfold chkG at h
  split at h
  · simp only [Bool.and_eq_true, Bool.or_eq_true] at h
    obtain ⟨h1, h2⟩ := h
    refine dg_nm (by rw [g.N]; exact g.nd) (at_ok g h1) ?_ ?_
    · unfold L2.Loc
      rw [g.sc]
      rcases h2 with h2 | h2
      · exact .inl (isK_ok h2)
      · exact .inr (isK_ok h2.1)
    · rcases h2 with h2 | h2
      · exact .inr (by rw [g.sc]; exact isK_ok h2)
      · exact .inl (g.fn _ h2.2)
  · simp only [Tg.tp.sizeOf_spec] at hs
    obtain ⟨l1, l2⟩ := chkGs_len ce _ _ h
    have r := dg_tp (C := F.cn W) g.hK (k := ‹Nat›) (pos := ‹Pos›) g.calm (ih.gs _ _ X W ce (by omega) g h) l2
    rw [← l1] at r
    exact r
  · simp only [Tg.sb.sizeOf_spec] at hs
    simp only [Bool.and_eq_true] at h
    exact dg_sub (ih.e _ _ X W ce (by omega) g h.1.1).1 (ih.e _ _ X W ce (by omega) g h.1.2).1 h.2
  · cases h
theorem ok_gs (ih : OK F cf k n) (e : TL) (x : List Expr) (X : Cx) (W : WX) (ce : CE) (hs : sizeOf e < n + 1) (g : GX X F W ce cf k) (h : chkGs ce e x = true) : PGs X x (TDgs (F.cn W) e.sl (evGs cf e)) := by
  cases e with
  | nil => cases x with
    | nil => exact dgs_nil
    | cons _ _ => cases h
  | cons e es => cases x with
    | nil => cases h
    | cons x xs =>
      simp only [chkGs, Bool.and_eq_true] at h
      simp only [TL.cons.sizeOf_spec] at hs
      exact dgs_cons (ih.g _ _ X W ce (by omega) g h.1.1) (ih.gs _ _ X W ce (by omega) g h.1.2) (nst h.2)
theorem ok_i (ih : OK F cf k n) (e : It) (tg x : Expr) (X : Cx) (W : WX) (ce : CE) (hs : sizeOf e < n + 1) (g : GX X F W ce cf k) (h : chkI ce e tg x = true) : PI X tg x (TDi (F.cn W) (evI cf e)) := by
  unfold chkI at h
  split at h
  all_goals try simp only [Bool.and_eq_true, Bool.not_eq_true', decide_eq_true_eq] at h
  all_goals try simp only [It.sq.sizeOf_spec, It.rg1.sizeOf_spec, It.rg2.sizeOf_spec, It.rg3.sizeOf_spec, It.en.sizeOf_spec, It.zp.sizeOf_spec] at hs
  · exact di_seq (C := F.cn W) g.hK (ih.e _ _ X W ce (by omega) g h).1
  · obtain ⟨⟨⟨h1, h2⟩, h3⟩, h4⟩ := h
    subst h1
    obtain ⟨a, b, c⟩ := fre_ok g h2
    exact di_rg1 a b (des_cons (ih.e _ _ X W ce (by omega) g h3).1 des_nil (starEach_cons h4)) h4
  · obtain ⟨⟨⟨⟨⟨h1, h2⟩, h3⟩, h4⟩, h5⟩, h6⟩ := h
    subst h1
    obtain ⟨a, b, c⟩ := fre_ok g h2
    exact di_rg2 a b (des_cons (ih.e _ _ X W ce (by omega) g h3).1 (des_cons (ih.e _ _ X W ce (by omega) g h4).1 des_nil (starEach_cons h6)) (starEach_cons h5)) h5 h6
  · obtain ⟨⟨⟨⟨⟨⟨⟨h1, h2⟩, h3⟩, h4⟩, h5⟩, h6⟩, h7⟩, h8⟩ := h
    subst h1
    obtain ⟨a, b, c⟩ := fre_ok g h2
    exact di_rg3 a b (des_cons (ih.e _ _ X W ce (by omega) g h3).1 (des_cons (ih.e _ _ X W ce (by omega) g h4).1 (des_cons (ih.e _ _ X W ce (by omega) g h5).1 des_nil (starEach_cons h8)) (starEach_cons h7)) (starEach_cons h6)) h6 (by simp [h7, h8])
  · obtain ⟨⟨h1, h2⟩, h3⟩ := h
    subst h1
    obtain ⟨a, b, c⟩ := fre_ok g h2
    obtain ⟨l1, l2⟩ := chkL_len ce _ _ h3
    exact di_en (C := F.cn W) g.hK a b (ih.l _ _ X W ce (by omega) g h3) l2
  · obtain ⟨⟨⟨⟨⟨h1, h2⟩, h3⟩, h4⟩, h5⟩, h6⟩ := h
    subst h1
    obtain ⟨a, b, c⟩ := fre_ok g h2
    exact di_zp (C := F.cn W) g.hK a b (des_cons (ih.e _ _ X W ce (by omega) g h3).1 (des_cons (ih.e _ _ X W ce (by omega) g h4).1 des_nil (starEach_cons h6)) (starEach_cons h5)) (by simp [h5, h6])
  · cases h
theorem ok_all (F : Fx) (cf : CF) (k : Nat) : ∀ n : Nat, OK F cf k n
  | 0 => by constructor <;> (intros; omega)
  | n + 1 => ⟨ok_e (ok_all F cf k n), ok_l (ok_all F cf k n), ok_kw (ok_all F cf k n), ok_an (ok_all F cf k n), ok_or (ok_all F cf k n), ok_o (ok_all F cf k n), ok_f (ok_all F cf k n), ok_g (ok_all F cf k n), ok_gs (ok_all F cf k n), ok_i (ok_all F cf k n)⟩
variable {X : Cx} {W : WX} {ce : CE}
theorem okE (g : GX X F W ce cf k) {e : E} {x : Expr} (h : chkE ce e x = true) : SE X F W cf e x := (ok_all F cf k (sizeOf e + 1)).e e x X W ce (Nat.lt_succ_self _) g h
theorem okG (g : GX X F W ce cf k) {e : Tg} {x : Expr} (h : chkG ce e x = true) : PG X x (TDg (F.cn W) e.sl (evG cf e)) := (ok_all F cf k (sizeOf e + 1)).g e x X W ce (Nat.lt_succ_self _) g h
theorem okI (g : GX X F W ce cf k) {e : It} {tg x : Expr} (h : chkI ce e tg x = true) : PI X tg x (TDi (F.cn W) (evI cf e)) := (ok_all F cf k (sizeOf e + 1)).i e tg x X W ce (Nat.lt_succ_self _) g h
theorem okF (g : GX X F W ce cf k) {e : EO} {x : List Expr} (h : chkF ce e x = true) : PTs X x (TDb (F.cn W) (evB cf e)) := (ok_all F cf k (sizeOf e + 1)).f e x X W ce (Nat.lt_succ_self _) g h
theorem noSw {x : Expr} {line : Nat} {env : Env} (h : (compSc x).isNone = true) : swapsWith x none line env = pure false := by
  cases x <;> first | rfl | cases h
theorem comp_inv {ce : CE} {own : List Nat} {gg : Tg} {it : It} {ifs : EO} {el : E} {x : Expr} (h : chkE ce (.comp own gg it ifs el) x = true) : ∃ elt tg iter fs scope pos, x = .ListComp elt [⟨tg, iter, fs, 0⟩] scope pos ∧
    chkI ce it tg iter = true ∧ chkG (ce.blk scope) gg tg = true ∧ chkF (ce.blk scope) ifs fs = true ∧ chkE (ce.blk scope) el elt = true ∧ blkC ce.N ce.sc scope (ownOf ce.N own) = true ∧ isSet iter = false ∧ gg.sl.all (fun i => decide (i ∈ own)) = true := by
  cases x <;> first | cases h | skip
  rename_i elt gens scope pos
  cases gens with
  | nil => cases h
  | cons q r => cases r with
    | cons _ _ => obtain ⟨tg, iter, fs, as⟩ := q; simp [chkE] at h
    | nil =>
      obtain ⟨tg, iter, fs, as⟩ := q
      simp only [chkE, Bool.and_eq_true, Bool.not_eq_true', decide_eq_true_eq] at h
      obtain ⟨⟨⟨⟨⟨⟨⟨h1, h2⟩, h3⟩, h4⟩, h5⟩, h6⟩, h7⟩, h8⟩ := h
      subst h8
      exact ⟨_, _, _, _, _, _, rfl, h1, h2, h3, h4, h5, h6, h7⟩
theorem par_inv {ce : CE} {i j : Nat} {a b : E} {x : Stmt} (h : chkS ce (.par i j a b) x = true) : ∃ x1 x2 px py k1 p1 u v k2 p2 p, x = .Assign [.Tuple [.Name x1 px, .Name x2 py] k1 p1] (.Tuple [u, v] k2 p2) p ∧
    parB x1 x2 px py u v ce.sc = true ∧ ce.at i x1 = true ∧ ce.at j x2 = true ∧ (i == j) = false ∧ chkE ce a u = true ∧ chkE ce b v = true := by
  unfold chkS at h
  split at h
  all_goals first | (rename_i heq; cases heq; done) | (rename_i heq _; cases heq; done) | (rename_i heq _ _; cases heq; done) | skip
  · rename_i heq
    cases heq
    simp only [Bool.and_eq_true, Bool.not_eq_true'] at h
    obtain ⟨⟨⟨⟨⟨h1, h2⟩, h3⟩, h4⟩, h5⟩, h6⟩ := h
    exact ⟨_, _, _, _, _, _, _, _, _, _, _, rfl, h1, h2, h3, h4, h5, h6⟩
  all_goals cases h
mutual
theorem okS (g : GX X F W ce cf k) (hp : PassesOwn (model X.prog X.w) X.A X.env X.xe) : ∀ (s : St) (x : Stmt), chkS ce s x = true → PS X x (TDS (F.cn W) (evS cf s))
  | .ret e, x, h => by
    cases x <;> first | cases h | skip
    rename_i v p; cases v with
    | none => cases h
    | some v => simp only [chkS] at h; exact ds_ret (okE g h).1
  | .retN, x, h => by
    cases x <;> first | cases h | skip
    rename_i v p; cases v with
    | none => exact ds_retN
    | some v => cases h
  | .ex e, x, h => by
    cases x <;> first | cases h | skip
    simp only [chkS, Bool.and_eq_true] at h
    exact ds_expr (okE g h.1).1 (noSw h.2)
  | .as t e, x, h => by
    cases x <;> first | cases h | skip
    rename_i tgs v p
    cases tgs with
    | nil => cases h
    | cons tg r => cases r with
      | cons _ _ => cases h
      | nil =>
        simp only [chkS, Bool.and_eq_true, Bool.not_eq_true'] at h
        obtain ⟨⟨⟨h1, h2⟩, h3⟩, h4⟩ := h
        have kd : X.env.scope.kind = .function := by rw [g.sc]; exact g.kd
        have sw : ∀ line, swapsWith v (some tg) line X.env = pure (swB v tg ce.sc) := fun line => by rw [swB_ok kd, g.sc]
        cases q : swB v tg ce.sc with
        | false =>
          simp only [q] at h4
          refine ds_asg (okE g h1).1 (okG g h2) h3 ((sw _).trans (by rw [q])) ?_
          rw [Bool.or_eq_true] at h4
          rcases h4 with h4 | h4
          · exact noSwB_ok h4
          · split at h4
            · exact noSwB2_ok kd (by rw [g.sc]; exact h4)
            · cases h4
        | true =>
          simp only [q] at h4
          split at h4
          · rename_i i own gg it ifs el
            obtain ⟨elt, tgx, iter, fs, scope, pos, rfl, c1, c2, c3, c4, c5, c6, c7⟩ := comp_inv h1
            unfold chkG at h2
            split at h2
            · rename_i heq
              cases heq
              simp only [Bool.and_eq_true, Bool.or_eq_true] at h2
              have hloc : isK (ce.sc.names.lookup ‹Str›) .local = true := by
                unfold swB at q
                simp only [compSc, Bool.and_eq_true] at q
                exact q.1.1
              have ok : BlkOk X.N X.env.scope scope (ownOf ce.N own) := by rw [g.N, g.sc]; exact blkOk_by c5
              have gb := fun s H A cl fp => g.blk scope ok.kind s H A cl fp
              have r := ds_setComp (spos := p) (pos := pos) (C := F.cn W) (own := ownOf ce.N own) (i := i) g.calm (by rw [g.N]; exact g.nd) (at_ok g h2.1) (by rw [g.sc]; exact isK_ok hloc) ((sw _).trans (by rw [q])) (okI g c1) ok
                (fun s H A cl fp => PG.mute (okG (gb s H A cl fp) c2)) (fun s H A cl fp => PTs.mute (okF (gb s H A cl fp) c3))
                (fun s H A cl fp => PE.mute (okE (gb s H A cl fp) c4).1) c6 (by rw [ownOf_snd]; simpa [List.all_eq_true] using c7)
              rw [ownOf_snd] at r
              exact r
            · rename_i heq; cases heq
            · rename_i heq; cases heq
            · cases h2
          · cases h4
  | .par i j a b, x, h => by
    obtain ⟨x1, x2, px, py, k1, p1, u, v, k2, p2, p, rfl, c1, c2, c3, c4, c5, c6⟩ := par_inv h
    have kd : X.env.scope.kind = .function := by rw [g.sc]; exact g.kd
    have c1' := c1
    unfold parB at c1'
    simp only [Bool.and_eq_true, Bool.not_eq_true'] at c1'
    obtain ⟨⟨⟨⟨⟨⟨⟨d1, d2⟩, d3⟩, d4⟩, d5⟩, d6⟩, d7⟩, d8⟩ := c1'
    exact ds_par g.calm (by rw [g.N]; exact g.nd) (at_ok g c2) (at_ok g c3) (by simpa using c4) (by rw [g.sc]; exact isK_ok d3) (by rw [g.sc]; exact isK_ok d4)
      (des_cons (okE g c5).1 (des_cons (okE g c6).1 des_nil (starEach_cons d2)) (starEach_cons d1)) (parB_ok kd (by rw [g.sc]; exact c1))
  | .ite c a b, x, h => by
    cases x <;> first | cases h | skip
    simp only [chkS, Bool.and_eq_true] at h
    exact ds_if ((okE g h.1.1.1).2 h.1.1.2) (okSs g hp a _ h.1.2) (okSs g hp b _ h.2)
  | .for t it b, x, h => by
    cases x <;> first | cases h | skip
    rename_i tg iter ys oe p
    cases oe with
    | cons _ _ => cases h
    | nil =>
      simp only [chkS, Bool.and_eq_true, Bool.not_eq_true'] at h
      exact ds_for hp g.calm (okI g h.1.1.1) (okG g h.1.1.2) (okSs g hp b _ h.1.2) h.2
  | .whl c b, x, h => by
    cases x <;> first | cases h | skip
    rename_i tg ys oe p
    cases oe with
    | cons _ _ => cases h
    | nil =>
      simp only [chkS, Bool.and_eq_true] at h
      exact ds_while hp ((okE g h.1.1).2 h.1.2) (okSs g hp b _ h.2)
  | .pass, x, h => by
    cases x <;> first | cases h | skip
    exact ds_pass
  | .brk, x, h => by
    cases x <;> first | cases h | skip
    exact ds_break
  | .ctn, x, h => by
    cases x <;> first | cases h | skip
    exact ds_continue
  | .stuck, x, h => ds_stuck
theorem okSs (g : GX X F W ce cf k) (hp : PassesOwn (model X.prog X.w) X.A X.env X.xe) : ∀ (s : SL) (x : List Stmt), chkSs ce s x = true → PSs X x (TDS (F.cn W) (evSs cf s))
  | .nil, [], h => dss_nil
  | .nil, _ :: _, h => by cases h
  | .cons _ _, [], h => by cases h
  | .cons s ss, x :: xs, h => by
    simp only [chkSs, Bool.and_eq_true] at h
    exact dss_cons (okS g hp s x h.1) (okSs g hp ss xs h.2)
end
end
end Bq

set_option linter.all false
set_option maxRecDepth 100000
set_option maxHeartbeats 4000000
/-! Bq18: a table of defs keeps its promise; the end. -/
namespace Bq
open PySem
open PySem.Spec
open PyProof.Rows
open L2
structure Src where
  params : Arguments
  body : List Stmt
  scope : Scope
def chkFn (fns : List (Str × List Str)) (fr : List Str) (gls : List (Str × G)) (F : Fn) (s : Src) : Bool :=
  decide (s.scope.kind = .function) && !s.scope.isCoroutine && !s.scope.isGenerator && decide F.N.Nodup && decide (F.N.take F.ps.length = F.ps) && F.ps.all (fun x => isK (s.scope.names.lookup x) .local || isK (s.scope.names.lookup x) .cell) &&
    s.scope.names.all (fun y => !decide (y.2 = .free)) && s.params.posonlyargs.isEmpty && s.params.kwonlyargs.isEmpty && s.params.vararg.isNone && s.params.kwarg.isNone && decide (s.params.args.map (·.arg) = F.ps) &&
    chkSs ⟨F.N, s.scope, fun _ => true, fns, fr, gls⟩ F.b s.body
def fnsOf (T : List Fn) : List (Str × List Str) := T.map fun F => (F.nm, F.ps)
structure FnC (fns : List (Str × List Str)) (fr : List Str) (gls : List (Str × G)) (F : Fn) (s : Src) : Prop where
  S : FnScope F.N F.ps s.scope
  po : s.params.posonlyargs = []
  ko : s.params.kwonlyargs = []
  va : s.params.vararg = none
  ka : s.params.kwarg = none
  ps : s.params.args.map (·.arg) = F.ps
  b : chkSs ⟨F.N, s.scope, fun _ => true, fns, fr, gls⟩ F.b s.body = true
theorem chkFn_ok {fns : List (Str × List Str)} {fr : List Str} {gls : List (Str × G)} {F : Fn} {s : Src} (h : chkFn fns fr gls F s = true) : FnC fns fr gls F s := by
  unfold chkFn at h
  simp only [Bool.and_eq_true, Bool.not_eq_true', decide_eq_true_eq, List.all_eq_true, List.isEmpty_iff, Option.isNone_iff_eq_none, Bool.or_eq_true, decide_eq_false_iff_not] at h
  obtain ⟨⟨⟨⟨⟨⟨⟨⟨⟨⟨⟨⟨h1, h2⟩, h3⟩, h4⟩, h5⟩, h6⟩, h7⟩, h8⟩, h9⟩, h10⟩, h11⟩, h12⟩, h13⟩ := h
  exact ⟨⟨h1, h2, h3, h4, h5, fun x hx => (h6 x hx).imp isK_ok isK_ok, h7⟩, h8, h9, h10, h11, h12, h13⟩
section
variable {P : Program} {w : World} {K : PySem.W.Frag} {mg : Str → Option Value}
/-- what is known of the program's names -/
structure Tab (K : PySem.W.Frag) (mg : Str → Option Value) (T : List Fn) (fr : List Str) (gls : List (Str × G)) : Prop where
  fns : ∀ (i : Nat) (F : Fn), T[i]? = some F → ∃ (qual : Str) (s : Src) (f : Addr) (fd : FuncData), mg F.nm = some (.ref f) ∧ FunD K F.nm qual s.params s.body s.scope [] [] f fd ∧ FnC (fnsOf T) fr gls F s
  fre : ∀ x ∈ fr, mg x = none
  gls : ∀ x g, (x, g) ∈ gls → ∃ u, mg x = some u ∧ RelV g.v u
theorem FunD.plain {K : PySem.W.Frag} {x qual : Str} {params : Arguments} {body : List Stmt} {scope : Scope} {f : Addr} {fd : FuncData} {ps : List Str} (F : FunD K x qual params body scope [] [] f fd)
    (h1 : params.posonlyargs = []) (h2 : params.kwonlyargs = []) (h3 : params.vararg = none) (h4 : params.kwarg = none) (h5 : params.args.map (·.arg) = ps) : Plain fd ps := by
  obtain ⟨oc, od, dV, kV, doc, pm, an, cdv, ct, osl, rfl, lk, hcd, hD, hK⟩ := F.ex
  rcases hD with ⟨_, rfl⟩ | ⟨e, _⟩
  · exact ⟨h1, h2, h3, h4, rfl, h5⟩
  · exact absurd rfl e
theorem Plain.binds {K : PySem.W.Frag} {fd : FuncData} {ps : List Str} (p : Plain fd ps) (nd : ps.Nodup) : Binds K fd ps [] := Binds.all fun us hl => by
  have e := bind_plain p nd (us := us) (ws := []) (ks := []) (by rw [hl, List.drop_length]) (by rw [hl]; rfl)
  rw [List.append_nil] at e
  exact e
theorem start_rel {ρ : List Addr} {H : Hp} : ∀ {us : List U} {vs : List V}, RUs K ρ H us vs → ∀ m : Nat, Rσ K ρ H (us.map some ++ List.replicate m none) (vs.map some ++ List.replicate m none) := fun {us vs} r m => by
  refine ⟨by simp [r.length], fun i u e => ?_⟩
  by_cases hi : i < us.length
  · rw [List.getElem?_append_left (by simpa using hi), List.getElem?_map] at e
    rw [List.getElem?_append_left (by simpa [← r.length] using hi), List.getElem?_map]
    cases q : us[i]? with
    | none => rw [q] at e; cases e
    | some u' =>
      rw [q] at e; cases e
      obtain ⟨v, e1, e2⟩ := r.get q
      exact ⟨v, by rw [e1]; rfl, e2⟩
  · rw [List.getElem?_append_right (by simpa using Nat.le_of_not_lt hi), List.getElem?_replicate] at e
    split at e <;> cases e
theorem tab_ok {F : Fx} {T : List Fn} {fr : List Str} {gls : List (Str × G)} (hK : F.K = K) (t : Tab K mg T fr gls) : ∀ (k : Nat) (i : Nat) (Fn' : Fn), T[i]? = some Fn' →
    ∃ (fa : Addr) (fd : FuncData), mg Fn'.nm = some (.ref fa) ∧ PySem.W.keepIn K (.ref fa) = true ∧ Binds K fd Fn'.ps [] ∧ Plain fd Fn'.ps ∧ Fn'.ps.Nodup ∧
      (∀ base : Heap, FnOk P w K mg base (L2.CX P w) k fa fd Fn'.ps (spF F Fn'.ps.length (callF T k i))) ∧ ∀ us S, us.length ≠ Fn'.ps.length → callF T k i us S = .stuck := by
  intro k
  induction k with
  | zero =>
    intro i Fn' e
    obtain ⟨qual, s, f, fd, m, FD, c⟩ := t.fns i Fn' e
    have pl : Plain fd Fn'.ps := FunD.plain FD c.po c.ko c.va c.ka c.ps
    have nd : Fn'.ps.Nodup := by rw [← c.S.pre]; exact c.S.nd.sublist (List.take_sublist _ _)
    refine ⟨f, fd, m, FD.kp, pl.binds nd, pl, nd, fun base => ⟨fun vs H Q E ⟨ρ, S, us, a, b, l, _⟩ => by rw [← b.length]; exact l, fun A outer s0 H args us vs Q E _ _ _ _ ⟨ρ, S, us', a, b, l, p⟩ => ?_⟩, callF_len e⟩
    exact (show False from p).elim
  | succ k ih =>
    intro i Fn' e
    obtain ⟨qual, s, f, fd, m, FD, c⟩ := t.fns i Fn' e
    have pl : Plain fd Fn'.ps := FunD.plain FD c.po c.ko c.va c.ka c.ps
    have nd : Fn'.ps.Nodup := by rw [← c.S.pre]; exact c.S.nd.sublist (List.take_sublist _ _)
    refine ⟨f, fd, m, FD.kp, pl.binds nd, pl, nd, fun base => FunD.ok FD c.S (fun vs H Q E ⟨ρ, S, us, a, b, l, _⟩ => by rw [← b.length]; exact l) (fun cdv A outer s0 H vs Q E hr ⟨ρ, S, us, a, b, l, p⟩ => ?_), callF_len e⟩
    refine ⟨TDS (F.cn fun cls d _ H => E cls d H) (evSs (callF T k) Fn'.b), okSs (k := k) (ce := ⟨Fn'.N, s.scope, fun _ => true, fnsOf T, fr, gls⟩) ⟨hK.symm, ?_, rfl, c.S.nd, rfl, c.S.kind, fun _ _ => rfl, rfl, takes_of rfl rfl rfl rfl, hr, t.fre, t.gls, fun j x ps hj => ?_⟩ (passes_of rfl) _ _ c.b, ?_⟩
    · have := hr.un
      show (A.deeper _).units + 64 < cLine
      omega
    · unfold fnsOf at hj
      rw [List.getElem?_map] at hj
      cases q : T[j]? with
      | none => rw [q] at hj; cases hj
      | some G' =>
        rw [q] at hj; cases hj
        obtain ⟨b1, b2, b3, b4, b5, b6, b7, b8, b9⟩ := ih j G' q
        exact ⟨b1, b2, b3, b4, b5, b6, b7, b8 base, b9⟩
    · refine ⟨ρ, us.map some ++ List.replicate (Fn'.N.length - us.length) none, S, ?_, a, ?_⟩
      · rw [b.length]
        show Rσ F.K ρ H _ (start _ _)
        exact start_rel b _
      · have p : PostF F (callF T (k + 1) i us S) ρ H Q E := p
        unfold callF at p
        rw [e] at p
        simp only [l, if_true] at p
        unfold runF at p
        cases q : evSs (callF T k) Fn'.b (us.map some ++ List.replicate (Fn'.N.length - us.length) none) S with
        | nx e' S' => rw [q] at p; exact fun ρ' H' σ' ex z _ => p ρ' H' .non ex z rfl
        | ret u S' => rw [q] at p; exact fun ρ' H' v ex z r => p ρ' H' v ex z r
        | exc cc u e' S' => rw [q] at p; exact fun ρ' H' σ' ex z _ cls d is => p ρ' H' ex z cls d is
        | brk e' S' => rw [q] at p; exact p.elim
        | ct e' S' => rw [q] at p; exact p.elim
        | stuck => rw [q] at p; exact p.elim
end
/-- what may be let out, of any world -/
def CXw (P : Program) : CXT := fun outer H s E u s' => ∃ w, L2.CX P w outer H s E u s'
theorem FnOk.cx {P : Program} {w : World} {K : PySem.W.Frag} {mg : Str → Option Value} {base : Heap} {k : Nat} {f : Addr} {fd : FuncData} {ps : List Str} {sp : Sp} (F : FnOk P w K mg base (L2.CX P w) k f fd ps sp) : FnOk P w K mg base (CXw P) k f fd ps sp :=
  ⟨F.len, fun A outer s H args us vs Q E hr e0 b r h => codeAny_mono (F.run A outer s H args us vs Q E hr e0 b r h) fun res s' hres => by
    rcases res with e | fl
    · exact ⟨w, hres⟩
    · cases fl <;> exact hres⟩
/-! ### the end: from the head's facts -/
/-- the script, as the law's argument: a frozen list, or one of the written part -/
def IsScr (S : Sto) (u : U) (ns : List Int) : Prop := (∃ n, u = .loc n ∧ S[n]? = some (.frz (ns.map .int))) ∨ u = .cl (ns.map .int)
def topSrc (p : Program) (i : Nat) : Src := ⟨defArgs (p.main.body.getD i (.Pass ⟨0, 0, 0, 0⟩)), defBody (p.main.body.getD i (.Pass ⟨0, 0, 0, 0⟩)), defScope (p.main.body.getD i (.Pass ⟨0, 0, 0, 0⟩))⟩
def gFa : Str × G → He.Fa
  | (x, .int i) => .int x i
  | (x, .str s) => .str x (mkS s)
def faOf (T : List Fn) (fr : List Str) (gls : List (Str × G)) : List He.Fa := T.map (fun F => .glo F.nm) ++ fr.map .free ++ gls.map gFa
def dfOf (p : Program) (T : List Fn) (ix : List Nat) : List He.DefD := (T.zip ix).map fun q => ⟨(q.1.nm, none), q.1.nm, q.1.nm, (topSrc p q.2).params, (topSrc p q.2).body, (topSrc p q.2).scope, [], []⟩
def chkAll (p : Program) (T : List Fn) (ix : List Nat) (fr : List Str) (gls : List (Str × G)) : Bool := decide (T.length = ix.length) && (T.zip ix).all fun q => chkFn (fnsOf T) fr gls q.1 (topSrc p q.2)
theorem tab_of {p : Program} {K : PySem.W.Frag} {h : Heap} {mg : Str → Option Value} {T : List Fn} {ix : List Nat} {fr : List Str} {gls : List (Str × G)} (X : K.In h) (G : h.Ns mainGlobals mg) (c : He.SaysD (faOf T fr gls) (dfOf p T ix) K) (hc : chkAll p T ix fr gls = true) : Tab K mg T fr gls := by
  unfold chkAll at hc
  rw [Bool.and_eq_true, decide_eq_true_eq, List.all_eq_true] at hc
  obtain ⟨hl, hc⟩ := hc
  refine ⟨fun i F e => ?_, fun x hx => ?_, fun x g hx => ?_⟩
  · obtain ⟨j, e2⟩ : ∃ j, ix[i]? = some j := ⟨_, List.getElem?_eq_getElem (by rw [← hl]; exact (List.getElem?_eq_some_iff.mp e).1)⟩
    have hz : (F, j) ∈ T.zip ix := List.mem_of_getElem? (i := i) ((List.getElem?_zip_eq_some (z := (F, j))).mpr ⟨e, e2⟩)
    have hm : (He.DefD.mk (F.nm, none) F.nm F.nm (topSrc p j).params (topSrc p j).body (topSrc p j).scope [] []) ∈ dfOf p T ix := List.mem_map.mpr ⟨_, hz, rfl⟩
    obtain ⟨fd, FD⟩ := c.defs hm
    have hf : He.Fa.glo F.nm ∈ faOf T fr gls := by unfold faOf; exact List.mem_append_left _ (List.mem_append_left _ (List.mem_map.mpr ⟨F, List.mem_of_getElem? e, rfl⟩))
    have hg := He.glo_ok X G (c.facts hf)
    have h1 : chkFn (fnsOf T) fr gls F (topSrc p j) = true := hc (F, j) hz
    have h2 : FunD K F.nm F.nm (topSrc p j).params (topSrc p j).body (topSrc p j).scope [] [] (He.ga K F.nm) fd := FD
    generalize topSrc p j = s at h1 h2
    exact ⟨F.nm, s, He.ga K F.nm, fd, hg, h2, chkFn_ok h1⟩
  · exact He.free_ok X G (c.facts (f := .free x) (by unfold faOf; exact List.mem_append_left _ (List.mem_append_right _ (List.mem_map.mpr ⟨x, hx, rfl⟩))))
  · have hf : gFa (x, g) ∈ faOf T fr gls := by unfold faOf; exact List.mem_append_right _ (List.mem_map.mpr ⟨_, hx, rfl⟩)
    cases g with
    | int i =>
      obtain ⟨t, e⟩ := He.int_ok X G (c.facts hf)
      exact ⟨_, e, ⟨t, rfl⟩⟩
    | str s =>
      obtain ⟨t, e⟩ := He.str_ok X G (c.facts hf)
      exact ⟨_, e, ⟨t, rfl⟩⟩
theorem ints_rel' {K : PySem.W.Frag} {ρ : List Addr} {H : Hp} : ∀ ns : List Int, RUs K ρ H (ns.map U.int) (ns.map V.int)
  | [] => rfl
  | n :: ns => ⟨_, _, rfl, rfl, ints_rel' ns⟩
def LawTrue (T : List Fn) (k iL n : Nat) : Prop := ∀ (ns : List Int) (S : Sto) (u : U), ns.length ≤ n → IsScr S u ns → ∃ S', callF T k iL [u] S = .ok (.bl true) S'
theorem law_end {P : Program} {p : Program} {w : World} {K : PySem.W.Frag} {h : Heap} {mg : Str → Option Value} {T : List Fn} {ix : List Nat} {fr : List Str} {gls : List (Str × G)} {k iL n : Nat} {F : Fn} {fa : Addr} {x nm : Str} (X : K.In h) (G : h.Ns mainGlobals mg)
    (c : He.SaysD (faOf T fr gls) (dfOf p T ix) K) (hc : chkAll p T ix fr gls = true) (hF : T[iL]? = some F) (hx : F.ps = [x]) (hnm : F.nm = nm) (hfa : mg nm = some (.ref fa)) (law : LawTrue T k iL n) :
    ∃ (K : PySem.W.Frag) (fd : FuncData) (sp : Sp), K.In h ∧ (∀ (s : Shared) (u : Value), BindsTo s fd ⟨[u], []⟩ [(x, u)]) ∧
      (∀ (H : Hp) (a : Addr) (ns : List Int), ns.length ≤ n → Only H → SqL K H a (ns.map V.int) → sp [.ref a] H (fun v _ => v = .bl true) fun _ _ _ => False) ∧
      ∀ base : Heap, K.In base → base.Ns mainGlobals mg → FnOk P w K mg base (CXw P) k fa fd [x] sp := by
  have t := tab_of X G c hc
  let Fx' : Fx := ⟨K, fun _ => 0, fun _ => 0, fun _ => Str.empty⟩
  obtain ⟨fa', fd, m, kp, bd, pl, nd, fo, _⟩ := tab_ok (P := P) (w := w) (F := Fx') rfl t k iL F hF
  rw [hnm] at m
  have e : fa' = fa := by have := m.symm.trans hfa; cases this; rfl
  subst e
  refine ⟨K, fd, spF Fx' 1 (callF T k iL), X, fun s u => ?_, fun H a ns hl hO hS => ?_, fun base Xb Gb => ?_⟩
  · have := bind_plain pl nd (us := [u]) (ws := []) (ks := []) (by rw [hx]; rfl) (by rw [hx]; rfl)
    rw [hx] at this
    exact .of_eq this
  · rcases hS with (hS | ⟨o, hS⟩) | hS
    · rcases hO a with z | ⟨o, xs, z⟩ <;> rw [z] at hS <;> cases hS
    · refine ⟨[a], [.frz (ns.map .int)], [.loc 0], ⟨rfl, by simp, fun i ob b h1 h2 => ?_⟩, ⟨_, [], rfl, ⟨a, rfl, rfl⟩, rfl⟩, rfl, ?_⟩
      · cases i with
        | zero => cases h1; cases h2; exact ⟨_, o, hS, ints_rel' ns⟩
        | succ i => simp at h1
      · obtain ⟨S', e⟩ := law ns [.frz (ns.map .int)] (.loc 0) hl (.inl ⟨0, rfl, rfl⟩)
        rw [e]
        exact fun _ _ v _ _ r => r
    · refine ⟨[], [], [.cl (ns.map .int)], ⟨rfl, by simp, fun i ob b h1 h2 => by simp at h1⟩, ⟨_, [], rfl, ⟨a, _, rfl, hS, ints_rel' ns⟩, rfl⟩, rfl, ?_⟩
      obtain ⟨S', e⟩ := law ns [] (.cl (ns.map .int)) hl (.inr rfl)
      rw [e]
      exact fun _ _ v _ _ r => r
  · have r := fo base
    rw [hx] at r
    exact FnOk.cx r
end Bq

set_option linter.all false
set_option maxRecDepth 100000
set_option maxHeartbeats 4000000
/-! Bq19: reasoning about runs of the intermediate language. -/
namespace Bq
open PySem
open PyProof.Rows
open L2
def wp {α : Type} (r : R α) (Q : α → Sto → Prop) : Prop := match r with
  | .ok a S => Q a S
  | _ => False
/-- it raises -/
def wx {α : Type} (r : R α) (Q : Nat → U → Sto → Prop) : Prop := match r with
  | .exc c u S => Q c u S
  | _ => False
def wpS (r : SR) (N B C : Evn → Sto → Prop) (Rt : U → Sto → Prop) : Prop := match r with
  | .nx e S => N e S
  | .brk e S => B e S
  | .ct e S => C e S
  | .ret u S => Rt u S
  | _ => False
def wpG (r : GR) (N : Evn → Sto → Prop) : Prop := match r with
  | .ok e S => N e S
  | _ => False
def wpO {α : Type} (r : Option (α × Sto)) (Q : α → Sto → Prop) : Prop := match r with
  | some (a, S) => Q a S
  | none => False
section
variable {α β : Type} {Q Q' : α → Sto → Prop} {cf : CF} {env : Evn} {S S' : Sto} {N B C : Evn → Sto → Prop} {Rt : U → Sto → Prop}
@[simp] theorem wp_ok {a : α} : wp (.ok a S) Q = Q a S := (rfl)
@[simp] theorem wp_exc {c : Nat} {u : U} : wp (.exc c u S) Q = False := (rfl)
@[simp] theorem wp_stuck : wp (.stuck : R α) Q = False := (rfl)
theorem wp_mono {r : R α} (h : wp r Q) (g : ∀ a S, Q a S → Q' a S) : wp r Q' := by
  cases r with
  | ok a S => exact g _ _ h
  | exc _ _ _ => exact h
  | stuck => exact h
@[simp] theorem wp_bind {r : R α} {f : α → Sto → R β} {Q : β → Sto → Prop} : wp (r.bind f) Q = wp r fun a S => wp (f a S) Q := by cases r <;> rfl
theorem wp_out {r : R α} (h : wp r Q) : ∃ a S, r = .ok a S ∧ Q a S := by
  cases r with
  | ok a S => exact ⟨a, S, rfl, h⟩
  | exc _ _ _ => exact h.elim
  | stuck => exact h.elim
@[simp] theorem wp_ofO {r : Option (α × Sto)} : wp (ofO r) Q = wpO r Q := by cases r <;> rfl
@[simp] theorem wpO_some {a : α} : wpO (some (a, S)) Q = Q a S := (rfl)
@[simp] theorem wpO_none : wpO (none : Option (α × Sto)) Q = False := (rfl)
@[simp] theorem wpO_ite {p : Prop} [Decidable p] {x y : Option (α × Sto)} : wpO (if p then x else y) Q = if p then wpO x Q else wpO y Q := by split <;> rfl
@[simp] theorem wp_ite {p : Prop} [Decidable p] {x y : R α} : wp (if p then x else y) Q = if p then wp x Q else wp y Q := by split <;> rfl
theorem ite_else_false {p : Prop} [Decidable p] {q : Prop} : (if p then q else False) = (p ∧ q) := by
  by_cases h : p <;> simp [h]
@[simp] theorem wpG_ok {e : Evn} {N : Evn → Sto → Prop} : wpG (.ok e S) N = N e S := (rfl)
theorem wp_fin {r : SR} {Q : U → Sto → Prop} : wp r.fin Q = wpS r (fun _ S => Q .non S) (fun _ _ => False) (fun _ _ => False) Q := by cases r <;> rfl
theorem wpS_toS {r : R α} {f : α → Sto → SR} : wpS (r.toS env f) N B C Rt = wp r fun a S => wpS (f a S) N B C Rt := by cases r <;> rfl
theorem wpS_mono {r : SR} {N' B' C' : Evn → Sto → Prop} {Rt' : U → Sto → Prop} (h : wpS r N B C Rt) (hN : ∀ e S, N e S → N' e S) (hB : ∀ e S, B e S → B' e S) (hC : ∀ e S, C e S → C' e S) (hR : ∀ u S, Rt u S → Rt' u S) : wpS r N' B' C' Rt' := by
  cases r with
  | nx e S => exact hN _ _ h
  | brk e S => exact hB _ _ h
  | ct e S => exact hC _ _ h
  | ret u S => exact hR _ _ h
  | exc _ _ _ _ => exact h
  | stuck => exact h
/-! ### statements -/
@[simp] theorem wpS_nil : wpS (evSs cf .nil env S) N B C Rt = N env S := rfl
@[simp] theorem wpS_cons {s : St} {ss : SL} : wpS (evSs cf (.cons s ss) env S) N B C Rt = wpS (evS cf s env S) (fun e S => wpS (evSs cf ss e S) N B C Rt) B C Rt := by
  show wpS (sSeq (evS cf s) (evSs cf ss) env S) N B C Rt = _
  unfold sSeq
  cases evS cf s env S <;> rfl
@[simp] theorem wpS_ret {e : E} : wpS (evS cf (.ret e) env S) N B C Rt = wp (ev cf e env S) Rt := by
  show wpS (sRet _ env S) N B C Rt = _
  unfold sRet; rw [wpS_toS]; rfl
@[simp] theorem wpS_retN : wpS (evS cf .retN env S) N B C Rt = Rt .non S := rfl
@[simp] theorem wpS_ex {e : E} : wpS (evS cf (.ex e) env S) N B C Rt = wp (ev cf e env S) fun _ S => N env S := by
  show wpS (sExpr _ env S) N B C Rt = _
  unfold sExpr; rw [wpS_toS]; rfl
@[simp] theorem wpS_as {t : Tg} {e : E} : wpS (evS cf (.as t e) env S) N B C Rt = wp (ev cf e env S) fun u S1 => wpG (evG cf t u env S1) N := by
  show wpS (sAsg _ _ env S) N B C Rt = _
  unfold sAsg; rw [wpS_toS]
  congr; funext u S1
  cases evG cf t u env S1 <;> rfl
@[simp] theorem wpS_par {i j : Nat} {a b : E} : wpS (evS cf (.par i j a b) env S) N B C Rt = wp (ev cf a env S) fun u S1 => wp (ev cf b env S1) fun w S2 => N ((env.set i (some u)).set j (some w)) S2 := by
  show wpS (sPar _ _ _ env S) N B C Rt = _
  unfold sPar; rw [wpS_toS]
  unfold dCons dNil
  simp only [wp_bind, wp_ok]
  rfl
@[simp] theorem wpS_ite {c : E} {a b : SL} : wpS (evS cf (.ite c a b) env S) N B C Rt = wp (ev cf c env S) fun u S1 => wp (asB u S1) fun k S2 => if k then wpS (evSs cf a env S2) N B C Rt else wpS (evSs cf b env S2) N B C Rt := by
  show wpS (sIf _ _ _ env S) N B C Rt = _
  unfold sIf; rw [wpS_toS]
  unfold dB
  rw [wp_bind]
  congr; funext u S1; congr; funext k S2; cases k <;> rfl
@[simp] theorem wpS_pass : wpS (evS cf .pass env S) N B C Rt = N env S := rfl
@[simp] theorem wpS_brk : wpS (evS cf .brk env S) N B C Rt = B env S := rfl
@[simp] theorem wpS_ctn : wpS (evS cf .ctn env S) N B C Rt = C env S := rfl
@[simp] theorem wp_asB {b : Bool} {Q : Bool → Sto → Prop} : wp (asB (.bl b) S) Q = Q b S := (rfl)
/-! ### expressions -/
section
variable {Q : U → Sto → Prop}
theorem wp_var {i : Nat} {u : U} (h : env[i]? = some (some u)) : wp (ev cf (.var i) env S) Q = Q u S := by
  show wp (dVar i env S) Q = _
  unfold dVar; rw [h]; rfl
@[simp] theorem ev_var {i : Nat} : ev cf (.var i) env S = match env[i]? with | some (some u) => .ok u S | _ => .stuck := rfl
@[simp] theorem ev_int {i : Int} : ev cf (.int i) env S = .ok (.int i) S := rfl
@[simp] theorem ev_bl {i : Bool} : ev cf (.bl i) env S = .ok (.bl i) S := rfl
@[simp] theorem ev_non : ev cf .non env S = .ok .non S := rfl
@[simp] theorem ev_str {s : List Nat} : ev cf (.str s) env S = .ok (.str s) S := rfl
@[simp] theorem ev_ty {s : String} : ev cf (.ty s) env S = .ok (.ty s) S := rfl
@[simp] theorem ev_gi {x : Str} {i : Int} : ev cf (.gl x (.int i)) env S = .ok (.int i) S := rfl
@[simp] theorem ev_gs {x : Str} {i : List Nat} : ev cf (.gl x (.str i)) env S = .ok (.str i) S := rfl
@[simp] theorem wp_tup {es : EL} : wp (ev cf (.tup es) env S) Q = wp (evL cf es env S) fun us S1 => wpO (mkTup us S1) Q := by
  show wp (dTup _ env S) Q = _
  unfold dTup; rw [wp_bind]; simp only [wp_ofO]
@[simp] theorem wp_lst {es : EL} : wp (ev cf (.lst es) env S) Q = wp (evL cf es env S) fun us S1 => wpO (mkLst us S1) Q := by
  show wp (dLst _ env S) Q = _
  unfold dLst; rw [wp_bind]; simp only [wp_ofO]
@[simp] theorem wp_bin {op : Operator} {a b : E} : wp (ev cf (.bin op a b) env S) Q = wp (ev cf a env S) fun u S1 => wp (ev cf b env S1) fun w S2 => wpO (binF op u w S2) Q := by
  show wp (dBin _ _ _ env S) Q = _
  unfold dBin; simp only [wp_bind, wp_ofO]
@[simp] theorem wp_neg {a : E} : wp (ev cf (.neg a) env S) Q = wp (ev cf a env S) fun u S1 => wpO (negF u S1) Q := by
  show wp (dUn _ _ env S) Q = _
  unfold dUn; simp only [wp_bind, wp_ofO]
@[simp] theorem wp_inv {a : E} : wp (ev cf (.inv a) env S) Q = wp (ev cf a env S) fun u S1 => wpO (invF u S1) Q := by
  show wp (dUn _ _ env S) Q = _
  unfold dUn; simp only [wp_bind, wp_ofO]
@[simp] theorem wp_cmp {op : CmpOp} {a b : E} : wp (ev cf (.cmp op a b) env S) Q = wp (ev cf a env S) fun u S1 => wp (ev cf b env S1) fun w S2 => wpO (cmpF op u w S2) Q := by
  show wp (dBin _ _ _ env S) Q = _
  unfold dBin; simp only [wp_bind, wp_ofO]
@[simp] theorem wp_chn {op op' : CmpOp} {a b c : E} : wp (ev cf (.chn op op' a b c) env S) Q = wp (ev cf a env S) fun u S1 => wp (ev cf b env S1) fun w S2 => wpO (cmpF op u w S2) fun z S3 => wp (asB z S3) fun k S3 => if k then wp (ev cf c env S3) fun x S4 => wpO (cmpF op' w x S4) Q else Q (.bl false) S3 := by
  show wp (dChn _ _ _ _ _ env S) Q = _
  unfold dChn; simp only [wp_bind, wp_ofO]
  congr; funext u S1; congr; funext w S2; congr; funext z S3
  cases z with
  | bl k => cases k <;> simp
  | _ => rfl
@[simp] theorem evAnd_one {e : E} : evAnd cf (.cons e .nil) = ev cf e := rfl
@[simp] theorem evOr_one {e : E} : evOr cf (.cons e .nil) = ev cf e := rfl
@[simp] theorem wpAnd {e e2 : E} {es : EL} : wp (evAnd cf (.cons e (.cons e2 es)) env S) Q = wp (ev cf e env S) fun u S1 => wp (asB u S1) fun k S2 => if k then wp (evAnd cf (.cons e2 es) env S2) Q else Q (.bl false) S2 := by
  show wp (dAnd _ _ env S) Q = _
  unfold dAnd dB; simp only [wp_bind]
  congr; funext u S1; congr; funext k S2; cases k <;> rfl
@[simp] theorem wpOr {e e2 : E} {es : EL} : wp (evOr cf (.cons e (.cons e2 es)) env S) Q = wp (ev cf e env S) fun u S1 => wp (asB u S1) fun k S2 => if k then Q (.bl true) S2 else wp (evOr cf (.cons e2 es) env S2) Q := by
  show wp (dOr _ _ env S) Q = _
  unfold dOr dB; simp only [wp_bind]
  congr; funext u S1; congr; funext k S2; cases k <;> rfl
@[simp] theorem ev_and {es : EL} : ev cf (.and es) = evAnd cf es := rfl
@[simp] theorem ev_or {es : EL} : ev cf (.or es) = evOr cf es := rfl
@[simp] theorem wp_not {a : E} : wp (ev cf (.not a) env S) Q = wp (ev cf a env S) fun u S1 => wp (asB u S1) fun k S2 => Q (.bl (!k)) S2 := by
  show wp (dNot _ env S) Q = _
  unfold dNot dB; simp only [wp_bind, wp_ok]
@[simp] theorem wp_iteE {c a b : E} : wp (ev cf (.ite c a b) env S) Q = wp (ev cf c env S) fun u S1 => wp (asB u S1) fun k S2 => if k then wp (ev cf a env S2) Q else wp (ev cf b env S2) Q := by
  show wp (dIf _ _ _ env S) Q = _
  unfold dIf dB; simp only [wp_bind]
  congr; funext u S1; congr; funext k S2; cases k <;> rfl
@[simp] theorem wp_ix {a b : E} : wp (ev cf (.ix a b) env S) Q = wp (ev cf a env S) fun u S1 => wp (ev cf b env S1) fun w S2 => wpO (ixF u w S2) Q := by
  show wp (dBin _ _ _ env S) Q = _
  unfold dBin; simp only [wp_bind, wp_ofO]
@[simp] theorem wp_sl {a : E} {lo hi : EO} : wp (ev cf (.sl a lo hi) env S) Q = wp (ev cf a env S) fun u S1 => wp (evO cf lo env S1) fun l S2 => wp (evO cf hi env S2) fun h S3 => wpO (slF u l h S3) Q := by
  show wp (dSl _ _ _ env S) Q = _
  unfold dSl; simp only [wp_bind, wp_ofO]
@[simp] theorem wp_no {Q : Option Int → Sto → Prop} : wp (evO cf .no env S) Q = Q none S := rfl
@[simp] theorem wp_so {e : E} {Q : Option Int → Sto → Prop} : wp (evO cf (.so e) env S) Q = wp (ev cf e env S) fun u S1 => wp (asPart u S1) Q := by
  show wp (dPart _ env S) Q = _
  unfold dPart; rw [wp_bind]
@[simp] theorem wp_asPart {i : Int} {Q : Option Int → Sto → Prop} : wp (asPart (.int i) S) Q = Q (some i) S := (rfl)
@[simp] theorem wp_call {f : Nat} {es : EL} : wp (ev cf (.call f es) env S) Q = wp (evL cf es env S) fun us S1 => wp (cf f us S1) Q := by
  show wp (dCall _ _ env S) Q = _
  unfold dCall; rw [wp_bind]
@[simp] theorem wp_callk {f : Nat} {es ks : EL} : wp (ev cf (.callk f es ks) env S) Q = wp (evL cf es env S) fun us S1 => wp (evL cf ks env S1) fun ws S2 => wp (cf f (us ++ ws) S2) Q := by
  show wp (dCall2 _ _ _ env S) Q = _
  unfold dCall2; simp only [wp_bind]
@[simp] theorem wp_bi {b : Bi} {es : EL} : wp (ev cf (.bi b es) env S) Q = wp (evL cf es env S) fun us S1 => wpO (b.f us S1) Q := by
  show wp (dCallN _ _ env S) Q = _
  unfold dCallN; simp only [wp_bind, wp_ofO]
@[simp] theorem wp_mt {m : Mt} {o : E} {es : EL} : wp (ev cf (.mt m o es) env S) Q = wp (ev cf o env S) fun u S1 => tyU m.T S1 u = true ∧ wp (evL cf es env S1) fun us S2 => wpO (m.f u us S2) Q := by
  show wp (dMth _ _ _ _ env S) Q = _
  unfold dMth; simp only [wp_bind, wp_ofO]
  congr; funext u S1
  by_cases h : tyU m.T S1 u = true
  · simp only [h, if_true, wp_bind, wp_ofO, true_and]
  · simp only [h, if_false, wp_stuck, false_and]; simp
@[simp] theorem wp_bits {o : E} : wp (ev cf (.bits o) env S) Q = wp (ev cf o env S) fun u S1 => wpO (bitsF u S1) Q := by
  show wp (dUn _ _ env S) Q = _
  unfold dUn; simp only [wp_bind, wp_ofO]
@[simp] theorem wpL_nil {Q : List U → Sto → Prop} : wp (evL cf .nil env S) Q = Q [] S := rfl
@[simp] theorem wpL_cons {e : E} {es : EL} {Q : List U → Sto → Prop} : wp (evL cf (.cons e es) env S) Q = wp (ev cf e env S) fun u S1 => wp (evL cf es env S1) fun us S2 => Q (u :: us) S2 := by
  show wp (dCons _ _ env S) Q = _
  unfold dCons; simp only [wp_bind, wp_ok]
theorem wp_comp {own : List Nat} {g : Tg} {it : It} {ifs : EO} {el : E} : wp (ev cf (.comp own g it ifs el) env S) Q = wp (evI cf it env S) fun j S1 => wp (compL (evG cf g) (evB cf ifs) (ev cf el) own j env (j.len S1 + 1) 0 [] S1) fun us S2 => wpO (mkLst us S2) Q := by
  show wp (dComp _ _ _ _ _ env S) Q = _
  unfold dComp; simp only [wp_bind, wp_ofO]
@[simp] theorem wpI_sq {e : E} {Q : J → Sto → Prop} : wp (evI cf (.sq e) env S) Q = wp (ev cf e env S) fun u S1 => wp (asJ u S1) Q := by
  show wp (jSeq _ env S) Q = _
  unfold jSeq; rw [wp_bind]
@[simp] theorem wpI_rg1 {a : E} {Q : J → Sto → Prop} : wp (evI cf (.rg1 a) env S) Q = wp (ev cf a env S) fun u S1 => wp (rgJ1 [u] S1) Q := by
  show wp (jArgs _ _ env S) Q = _
  unfold jArgs dCons dNil; simp only [wp_bind, wp_ok]
@[simp] theorem wpI_rg2 {a b : E} {Q : J → Sto → Prop} : wp (evI cf (.rg2 a b) env S) Q = wp (ev cf a env S) fun u S1 => wp (ev cf b env S1) fun w S2 => wp (rgJ2 [u, w] S2) Q := by
  show wp (jArgs _ _ env S) Q = _
  unfold jArgs dCons dNil; simp only [wp_bind, wp_ok]
@[simp] theorem wpI_rg3 {a b c : E} {Q : J → Sto → Prop} : wp (evI cf (.rg3 a b c) env S) Q = wp (ev cf a env S) fun u S1 => wp (ev cf b env S1) fun w S2 => wp (ev cf c env S2) fun x S3 => wp (rgJ3 [u, w, x] S3) Q := by
  show wp (jArgs _ _ env S) Q = _
  unfold jArgs dCons dNil; simp only [wp_bind, wp_ok]
@[simp] theorem wpI_en {es : EL} {Q : J → Sto → Prop} : wp (evI cf (.en es) env S) Q = wp (evL cf es env S) fun us S1 => wp (enJ us S1) Q := by
  show wp (jArgs _ _ env S) Q = _
  unfold jArgs; simp only [wp_bind]
@[simp] theorem wpI_zp {a b : E} {Q : J → Sto → Prop} : wp (evI cf (.zp a b) env S) Q = wp (ev cf a env S) fun u S1 => wp (ev cf b env S1) fun w S2 => wp (zpJ [u, w] S2) Q := by
  show wp (jArgs _ _ env S) Q = _
  unfold jArgs dCons dNil; simp only [wp_bind, wp_ok]
@[simp] theorem wpB_no {Q : Bool → Sto → Prop} : wp (evB cf .no env S) Q = Q true S := rfl
@[simp] theorem wpB_so {e : E} {Q : Bool → Sto → Prop} : wp (evB cf (.so e) env S) Q = wp (ev cf e env S) fun u S1 => wp (asB u S1) Q := by
  show wp (dB _ env S) Q = _
  unfold dB; rw [wp_bind]
/-! ### targets -/
@[simp] theorem evG_nm {i : Nat} {u : U} : evG cf (.nm i) u env S = .ok (env.set i (some u)) S := rfl
@[simp] theorem evG_tp {ts : TL} {us : List U} : evG cf (.tp ts) (.tup us) env S = gLen ts.len (evGs cf ts) us env S := rfl
@[simp] theorem gLen_eq {n : Nat} {ds : List U → Evn → Sto → GR} {us : List U} : gLen n ds us env S = if us.length = n then ds us env S else .stuck := rfl
@[simp] theorem evGs_nil : evGs cf .nil [] env S = .ok env S := rfl
@[simp] theorem wpG_cons {t : Tg} {ts : TL} {u : U} {us : List U} : wpG (evGs cf (.cons t ts) (u :: us) env S) N = wpG (evG cf t u env S) fun e S1 => wpG (evGs cf ts us e S1) N := by
  show wpG (gCons' _ _ _ env S) N = _
  unfold gCons'
  dsimp only
  cases h : evG cf t u env S <;> rfl
@[simp] theorem wpG_ite {p : Prop} [Decidable p] {x y : GR} : wpG (if p then x else y) N = if p then wpG x N else wpG y N := by split <;> rfl
@[simp] theorem wpG_stuck : wpG .stuck N = False := (rfl)
@[simp] theorem wpG_sb {o i : E} {v : U} : wpG (evG cf (.sb o i) v env S) N = wp (ev cf o env S) fun a S1 => wp (ev cf i env S1) fun b S2 => match setF a b v S2 with | some S3 => N env S3 | none => False := by
  show wpG (gSb _ _ v env S) N = _
  unfold gSb
  cases ev cf o env S with
  | ok a S1 =>
    simp only [wp_ok]
    cases ev cf i env S1 with
    | ok b S2 => simp only [wp_ok]; cases setF a b v S2 <;> rfl
    | exc _ _ _ => rfl
    | stuck => rfl
  | exc _ _ _ => rfl
  | stuck => rfl
end
/-! ### loops -/
theorem wp_noX {r : R α} : wp (noX r) Q = wp r Q := by cases r <;> rfl
/-- a comprehension over things known beforehand -/
theorem wp_compL {g : DG} {ts : Den Bool} {de : Den U} {own : List Nat} {j : J} {xs : List U} (Iv : Nat → List U → Sto → Prop) (hj : ∀ i acc S, Iv i acc S → j.at S i = some xs[i]?) (hl : xs.length ≤ LIM)
    (step : ∀ i acc S x, Iv i acc S → xs[i]? = some x → wpG (g x (wipeU env own) S) fun e1 S1 => wp (ts e1 S1) fun b S2 => if b then wp (de e1 S2) fun y S3 => Iv (i + 1) (acc ++ [y]) S3 else Iv (i + 1) acc S2) :
    ∀ (n i : Nat) (acc : List U) (S : Sto), Iv i acc S → acc.length ≤ i → i ≤ xs.length → xs.length < n + i → wp (compL g ts de own j env n i acc S) fun us S' => Iv xs.length us S' ∧ us.length ≤ xs.length
  | 0, i, acc, S, _, _, h2, h3 => by omega
  | n + 1, i, acc, S, h, ha, h2, h3 => by
    unfold compL
    rw [hj i acc S h]
    cases q : xs[i]? with
    | none =>
      have : i = xs.length := by
        have := List.getElem?_eq_none_iff.mp q
        omega
      subst this
      exact ⟨h, ha⟩
    | some x =>
      have hi : i < xs.length := (List.getElem?_eq_some_iff.mp q).1
      have st := step i acc S x h q
      simp only
      cases q2 : g x (wipeU env own) S with
      | stuck => rw [q2] at st; exact st.elim
      | ok e1 S1 =>
        rw [q2] at st
        simp only [wpG_ok] at st
        simp only [wp_bind, wp_noX]
        refine wp_mono st fun b S2 hb => ?_
        cases b with
        | false =>
          simp only [Bool.false_eq_true, if_false] at hb ⊢
          exact wp_compL Iv hj hl step n (i + 1) acc S2 hb (by omega) (by omega) (by omega)
        | true =>
          simp only [if_true, wp_bind, wp_noX] at hb ⊢
          refine wp_mono hb fun y S3 hy => ?_
          rw [if_pos (by omega)]
          exact wp_compL Iv hj hl step n (i + 1) (acc ++ [y]) S3 hy (by simp; omega) (by omega) (by omega)
theorem wp_compR {Q : U → Sto → Prop} {own : List Nat} {g : Tg} {it : It} {ifs : EO} {el : E} (h : wp (evI cf it env S) fun j S1 => ∃ (xs : List U) (Iv : Nat → List U → Sto → Prop), j.len S1 = xs.length ∧ xs.length ≤ LIM ∧ Iv 0 [] S1 ∧ (∀ i acc S, Iv i acc S → j.at S i = some xs[i]?) ∧
      (∀ i acc S x, Iv i acc S → xs[i]? = some x → wpG (evG cf g x (wipeU env own) S) fun e1 S1 => wp (evB cf ifs e1 S1) fun b S2 => if b then wp (ev cf el e1 S2) fun y S3 => Iv (i + 1) (acc ++ [y]) S3 else Iv (i + 1) acc S2) ∧
      ∀ us S2, us.length ≤ xs.length → Iv xs.length us S2 → Q (.loc S2.length) (S2 ++ [.lst us])) : wp (ev cf (.comp own g it ifs el) env S) Q := by
  rw [wp_comp]
  refine wp_mono h fun j S1 ⟨xs, Iv, h1, h2, h3, h4, h5, h6⟩ => ?_
  refine wp_mono (wp_compL Iv h4 h2 h5 (j.len S1 + 1) 0 [] S1 h3 (Nat.le_refl _) (Nat.zero_le _) (by omega)) fun us S2 ⟨hi, hl⟩ => ?_
  unfold mkLst
  rw [if_pos (by omega)]
  exact h6 us S2 hl hi
theorem wpS_forL {g : DG} {b : DS} {j : J} {xs : List U} (Iv : Nat → Evn → Sto → Prop) (hj : ∀ i e S, Iv i e S → j.at S i = some xs[i]?)
    (step : ∀ i e S x, Iv i e S → xs[i]? = some x → wpG (g x e S) fun e1 S1 => wpS (b e1 S1) (Iv (i + 1)) N (Iv (i + 1)) Rt) (hN : ∀ e S, Iv xs.length e S → N e S) :
    ∀ (n i : Nat) (e : Evn) (S : Sto), Iv i e S → i ≤ xs.length → xs.length < n + i → wpS (forL g b j n i e S) N B C Rt
  | 0, i, e, S, _, h2, h3 => by omega
  | n + 1, i, e, S, h, h2, h3 => by
    unfold forL
    rw [hj i e S h]
    cases q : xs[i]? with
    | none =>
      have : i = xs.length := by
        have := List.getElem?_eq_none_iff.mp q
        omega
      subst this
      exact hN _ _ h
    | some x =>
      have hi : i < xs.length := (List.getElem?_eq_some_iff.mp q).1
      have st := step i e S x h q
      simp only
      cases q2 : g x e S with
      | stuck => rw [q2] at st; exact st.elim
      | ok e1 S1 =>
        rw [q2] at st
        simp only [wpG_ok] at st
        dsimp only
        cases q3 : b e1 S1 with
        | nx e2 S2 => rw [q3] at st; exact wpS_forL Iv hj step hN n (i + 1) e2 S2 st (by omega) (by omega)
        | ct e2 S2 => rw [q3] at st; exact wpS_forL Iv hj step hN n (i + 1) e2 S2 st (by omega) (by omega)
        | brk e2 S2 => rw [q3] at st; exact st
        | ret u S2 => rw [q3] at st; exact st
        | exc _ _ _ _ => rw [q3] at st; exact st
        | stuck => rw [q3] at st; exact st
theorem wpS_forR {t : Tg} {it : It} {b : SL} (h : wp (evI cf it env S) fun j S1 => ∃ (xs : List U) (Iv : Nat → Evn → Sto → Prop), j.len S1 = xs.length ∧ Iv 0 env S1 ∧ (∀ i e S, Iv i e S → j.at S i = some xs[i]?) ∧
      (∀ i e S x, Iv i e S → xs[i]? = some x → wpG (evG cf t x e S) fun e1 S1 => wpS (evSs cf b e1 S1) (Iv (i + 1)) N (Iv (i + 1)) Rt) ∧ ∀ e S, Iv xs.length e S → N e S) : wpS (evS cf (.for t it b) env S) N B C Rt := by
  show wpS (sFor _ _ _ env S) N B C Rt
  unfold sFor; rw [wpS_toS]
  refine wp_mono h fun j S1 ⟨xs, Iv, h1, h3, h4, h5, h6⟩ => ?_
  exact wpS_forL Iv h4 h5 h6 _ 0 env S1 h3 (Nat.zero_le _) (by omega)
theorem wpS_whlL {c : Den U} {b : DS} (Iv : Nat → Evn → Sto → Prop)
    (step : ∀ m e S, Iv m e S → wp (c e S) fun u S1 => wp (asB u S1) fun k S2 => if k then wpS (b e S2) (fun e2 S3 => ∃ m', m' < m ∧ Iv m' e2 S3) N (fun e2 S3 => ∃ m', m' < m ∧ Iv m' e2 S3) Rt else N e S2) :
    ∀ (n m : Nat) (e : Evn) (S : Sto), Iv m e S → m < n → wpS (whileL c b n e S) N B C Rt
  | 0, m, e, S, _, h2 => by omega
  | n + 1, m, e, S, h, h2 => by
    unfold whileL
    rw [wpS_toS]
    unfold dB
    rw [wp_bind]
    refine wp_mono (step m e S h) fun u S1 hu => wp_mono hu fun k S2 hk => ?_
    cases k with
    | false => exact hk
    | true =>
      simp only [if_true] at hk ⊢
      cases q3 : b e S2 with
      | nx e2 S3 => rw [q3] at hk; obtain ⟨m', h3, h4⟩ := hk; exact wpS_whlL Iv step n m' e2 S3 h4 (by omega)
      | ct e2 S3 => rw [q3] at hk; obtain ⟨m', h3, h4⟩ := hk; exact wpS_whlL Iv step n m' e2 S3 h4 (by omega)
      | brk e2 S2 => rw [q3] at hk; exact hk
      | ret u S2 => rw [q3] at hk; exact hk
      | exc _ _ _ _ => rw [q3] at hk; exact hk
      | stuck => rw [q3] at hk; exact hk
theorem wpS_whlR {c : E} {b : SL} (Iv : Nat → Evn → Sto → Prop) (m : Nat) (hm : m < WF) (h0 : Iv m env S)
    (step : ∀ m e S, Iv m e S → wp (ev cf c e S) fun u S1 => wp (asB u S1) fun k S2 => if k then wpS (evSs cf b e S2) (fun e2 S3 => ∃ m', m' < m ∧ Iv m' e2 S3) N (fun e2 S3 => ∃ m', m' < m ∧ Iv m' e2 S3) Rt else N e S2) : wpS (evS cf (.whl c b) env S) N B C Rt :=
  wpS_whlL Iv step WF m env S h0 hm
/-! ### calls -/
theorem callF_step {T : List Fn} {i k : Nat} {F : Fn} {us : List U} {Q : U → Sto → Prop} (hT : T[i]? = some F) (hk : 0 < k) (hl : us.length = F.ps.length)
    (h : wpS (evSs (callF T (k - 1)) F.b (us.map some ++ List.replicate (F.N.length - us.length) none) S) (fun _ S => Q .non S) (fun _ _ => False) (fun _ _ => False) Q) : wp (callF T k i us S) Q := by
  cases k with
  | zero => omega
  | succ k =>
    unfold callF
    rw [hT]
    dsimp only
    rw [if_pos hl]
    unfold runF
    rw [wp_fin]
    exact h
/-! ### what a run keeps of the store -/
/-- all but the places ds stands as before -/
structure Keep (ds : List Nat) (S S' : Sto) : Prop where
  len : S.length ≤ S'.length
  at_ : ∀ (n : Nat) (o : Ob), n ∉ ds → S[n]? = some o → S'[n]? = some o
theorem Keep.refl {ds : List Nat} : Keep ds S S := ⟨Nat.le_refl _, fun _ _ _ h => h⟩
theorem Keep.trans {ds : List Nat} {S1 S2 : Sto} (a : Keep ds S S1) (b : Keep ds S1 S2) : Keep ds S S2 := ⟨Nat.le_trans a.len b.len, fun n o h e => b.at_ n o h (a.at_ n o h e)⟩
theorem Keep.mono {ds es : List Nat} (a : Keep ds S S') (h : ∀ n ∈ ds, n ∈ es) : Keep es S S' := ⟨a.len, fun n o hn e => a.at_ n o (fun z => hn (h n z)) e⟩
theorem Keep.nil {ds : List Nat} (a : Keep [] S S') : Keep ds S S' := a.mono (by simp)
theorem Keep.app {ds : List Nat} {l : Sto} : Keep ds S (S ++ l) := ⟨by simp, fun n o _ e => by rw [List.getElem?_append_left (List.getElem?_eq_some_iff.mp e).1]; exact e⟩
theorem Keep.set {ds : List Nat} {n : Nat} {o : Ob} (h : n ∈ ds) : Keep ds S (S.set n o) := ⟨by simp, fun m o' hm e => by rw [List.getElem?_set_ne (by rintro rfl; exact hm h)]; exact e⟩
/-- a change behind the old end is none of before's business -/
theorem Keep.new {ds : List Nat} {n : Nat} (a : Keep (n :: ds) S S') (h : S.length ≤ n) : Keep ds S S' := ⟨a.len, fun m o hm e => a.at_ m o (by
  intro z
  rcases List.mem_cons.mp z with z | z
  · have := (List.getElem?_eq_some_iff.mp e).1; omega
  · exact hm z) e⟩
theorem Keep.seq {ds : List Nat} (a : Keep ds S S') {n : Nat} {us : List U} (h : n ∉ ds) (e : seqAt S n = some us) : seqAt S' n = some us := by
  unfold seqAt at e ⊢
  split at e
  · rename_i q; rw [a.at_ n _ h q]; exact e
  · rename_i q; rw [a.at_ n _ h q]; exact e
  · cases e
end
end Bq

set_option linter.all false
set_option maxRecDepth 100000
set_option maxHeartbeats 4000000
/-! Bq20: the operations at known shapes, for simp. -/
namespace Bq
open PySem
open PyProof.Rows
open L2
/-- a text some times over -/
def rep {α : Type} (n : Nat) (s : List α) : List α := (List.replicate n s).flatten
@[simp] theorem rep_len {α : Type} {n : Nat} {s : List α} : (rep n s).length = n * s.length := by simp [rep]
section
variable {S : Sto} {i j : Int} {s t : List Nat} {us ws : List U} {n m : Nat} {Q : U → Sto → Prop} {u w : U} {b c : Bool}
@[simp] theorem binF_add : binF .Add = addF := rfl
@[simp] theorem binF_sub : binF .Sub = subF := rfl
@[simp] theorem binF_mul : binF .Mult = mulF := rfl
@[simp] theorem binF_fdiv : binF .FloorDiv = fdivF := rfl
@[simp] theorem binF_mod : binF .Mod = modF := rfl
@[simp] theorem binF_pow : binF .Pow = powF := rfl
@[simp] theorem binF_shl : binF .LShift = shlF := rfl
@[simp] theorem binF_shr : binF .RShift = shrF := rfl
@[simp] theorem binF_and : binF .BitAnd = andF := rfl
@[simp] theorem binF_or : binF .BitOr = orF := rfl
@[simp] theorem binF_xor : binF .BitXor = xorF := rfl
@[simp] theorem addF_int : addF (.int i) (.int j) S = some (.int (i + j), S) := rfl
@[simp] theorem addF_str : wpO (addF (.str s) (.str t) S) Q = (s.length + t.length ≤ LIM ∧ Q (.str (s ++ t)) S) := by simp [addF, ite_else_false]
@[simp] theorem addF_tup : wpO (addF (.tup us) (.tup ws) S) Q = (us.length + ws.length ≤ LIM ∧ Q (.tup (us ++ ws)) S) := by simp [addF, ite_else_false]
theorem addF_lst (h : S[n]? = some (.lst us)) (h' : S[m]? = some (.lst ws)) : wpO (addF (.loc n) (.loc m) S) Q = (us.length + ws.length ≤ LIM ∧ Q (.loc S.length) (S ++ [.lst (us ++ ws)])) := by simp [addF, h, h', ite_else_false]
@[simp] theorem subF_int : subF (.int i) (.int j) S = some (.int (i - j), S) := rfl
@[simp] theorem mulF_int : wpO (mulF (.int i) (.int j) S) Q = ((Sm BIG i ∨ Sm BIG j) ∧ Q (.int (i * j)) S) := by simp [mulF, ite_else_false]
@[simp] theorem mulF_str : wpO (mulF (.str s) (.int j) S) Q = ((0 ≤ j ∧ Sm 1000001 j ∧ s.length * j.toNat ≤ LIM) ∧ Q (.str (rep j.toNat s)) S) := by simp [mulF, ite_else_false, rep]
@[simp] theorem fdivF_int : wpO (fdivF (.int i) (.int j) S) Q = ((0 < j ∧ Sm 1073741824 j) ∧ Q (.int (i / j)) S) := by simp [fdivF, ite_else_false]
@[simp] theorem modF_int : wpO (modF (.int i) (.int j) S) Q = (0 < j ∧ Q (.int (i % j)) S) := by simp [modF, ite_else_false]
@[simp] theorem powF_int : wpO (powF (.int i) (.int j) S) Q = ((0 ≤ j ∧ Sm 1000001 j ∧ i.natAbs < 2 ^ 64) ∧ Q (.int (i ^ j.toNat)) S) := by simp [powF, ite_else_false]
@[simp] theorem shlF_int : wpO (shlF (.int i) (.int j) S) Q = ((0 ≤ j ∧ Sm 1000001 j ∧ i.natAbs < 2 ^ 64) ∧ Q (.int (i * 2 ^ j.toNat)) S) := by simp [shlF, ite_else_false]
@[simp] theorem shrF_int : wpO (shrF (.int i) (.int j) S) Q = (0 ≤ j ∧ Q (.int (i / 2 ^ j.toNat)) S) := by simp [shrF, ite_else_false]
@[simp] theorem andF_int : andF (.int i) (.int j) S = some (.int (Builtin.bitAnd i j), S) := rfl
@[simp] theorem orF_int : orF (.int i) (.int j) S = some (.int (Builtin.bitOr i j), S) := rfl
@[simp] theorem xorF_int : xorF (.int i) (.int j) S = some (.int (Builtin.bitXor i j), S) := rfl
@[simp] theorem negF_int : negF (.int i) S = some (.int (-i), S) := rfl
@[simp] theorem invF_int : invF (.int i) S = some (.int (Builtin.bitNot i), S) := rfl
@[simp] theorem wpO_mkTup : wpO (mkTup us S) Q = (us.length ≤ LIM ∧ Q (.tup us) S) := by simp [mkTup, ite_else_false]
@[simp] theorem wpO_mkLst : wpO (mkLst us S) Q = (us.length ≤ LIM ∧ Q (.loc S.length) (S ++ [.lst us])) := by simp [mkLst, ite_else_false]
@[simp] theorem wpO_cmp {op : CmpOp} : wpO (cmpF op u w S) Q = match cmpB S op u w with | some b => Q (.bl b) S | none => False := by unfold cmpF; cases cmpB S op u w <;> rfl
@[simp] theorem cmpB_eq : cmpB S .Eq u w = eqB S u w := rfl
@[simp] theorem cmpB_ne : cmpB S .NotEq u w = (eqB S u w).map (!·) := rfl
@[simp] theorem cmpB_lt : cmpB S .Lt u w = ltB u w := rfl
@[simp] theorem cmpB_le : cmpB S .LtE u w = leB u w := rfl
@[simp] theorem cmpB_gt : cmpB S .Gt u w = gtB u w := rfl
@[simp] theorem cmpB_ge : cmpB S .GtE u w = geB u w := rfl
@[simp] theorem cmpB_in : cmpB S .In u w = inB S u w := rfl
@[simp] theorem cmpB_ni : cmpB S .NotIn u w = (inB S u w).map (!·) := rfl
@[simp] theorem cmpB_is : cmpB S .Is u w = isB u w := rfl
@[simp] theorem cmpB_isn : cmpB S .IsNot u w = (isB u w).map (!·) := rfl
@[simp] theorem eqB_int : eqB S (.int i) (.int j) = some (decide (i = j)) := rfl
@[simp] theorem eqB_str : eqB S (.str s) (.str t) = some (decide (s = t)) := rfl
@[simp] theorem eqB_bl : eqB S (.bl b) (.bl c) = some (decide (b = c)) := rfl
@[simp] theorem eqB_non : eqB S .non .non = some true := rfl
@[simp] theorem eqB_non_int : eqB S .non (.int i) = some false := rfl
@[simp] theorem eqB_int_non : eqB S (.int i) .non = some false := rfl
@[simp] theorem eqB_non_str : eqB S .non (.str s) = some false := rfl
@[simp] theorem eqB_str_non : eqB S (.str s) .non = some false := rfl
@[simp] theorem ltB_int : ltB (.int i) (.int j) = some (decide (i < j)) := rfl
@[simp] theorem leB_int : leB (.int i) (.int j) = some (decide (i ≤ j)) := rfl
@[simp] theorem gtB_int : gtB (.int i) (.int j) = some (decide (j < i)) := rfl
@[simp] theorem geB_int : geB (.int i) (.int j) = some (decide (j ≤ i)) := rfl
@[simp] theorem ltB_str : ltB (.str s) (.str t) = some (decide (s < t)) := rfl
@[simp] theorem leB_str : leB (.str s) (.str t) = some (!decide (t < s)) := rfl
@[simp] theorem gtB_str : gtB (.str s) (.str t) = some (decide (t < s)) := rfl
@[simp] theorem geB_str : geB (.str s) (.str t) = some (!decide (s < t)) := rfl
@[simp] theorem isB_non : isB .non .non = some true := rfl
@[simp] theorem isB_int : isB (.int i) .non = some false := rfl
@[simp] theorem isB_str : isB (.str s) .non = some false := rfl
@[simp] theorem isB_tup : isB (.tup us) .non = some false := rfl
@[simp] theorem isB_loc : isB (.loc n) .non = some false := rfl
@[simp] theorem isB_bl : isB (.bl b) .non = some false := rfl
@[simp] theorem Bi_len : Bi.f .len = lenF := rfl
@[simp] theorem Bi_list : Bi.f .list = listF := rfl
@[simp] theorem Bi_tuple : Bi.f .tuple = tupleF := rfl
@[simp] theorem Bi_int : Bi.f .int = intF := rfl
@[simp] theorem Bi_str : Bi.f .str = strF := rfl
@[simp] theorem Bi_ord : Bi.f .ord = ordF := rfl
@[simp] theorem Bi_abs : Bi.f .abs = absF := rfl
@[simp] theorem Bi_sum : Bi.f .sum = sumF := rfl
@[simp] theorem Bi_max : Bi.f .max = maxF := rfl
@[simp] theorem Bi_min : Bi.f .min = minF := rfl
@[simp] theorem Bi_all : Bi.f .all = allF := rfl
@[simp] theorem Bi_any : Bi.f .any = anyF := rfl
@[simp] theorem Bi_sorted : Bi.f .sorted = sortedF := rfl
@[simp] theorem Bi_isi : Bi.f .isi = isiF := rfl
@[simp] theorem Mt_append : Mt.f .append = appendF := rfl
@[simp] theorem Mt_extend : Mt.f .extend = extendF := rfl
@[simp] theorem Mt_pop : Mt.f .pop = popF := rfl
@[simp] theorem Mt_join : Mt.f .join = joinF := rfl
@[simp] theorem Mt_split : Mt.f .split = splitF := rfl
@[simp] theorem Mt_starts : Mt.f .starts = startsF := rfl
@[simp] theorem Mt_count : Mt.f .count = countF := rfl
@[simp] theorem MtT_append : Mt.T .append = "list" := rfl
@[simp] theorem MtT_extend : Mt.T .extend = "list" := rfl
@[simp] theorem MtT_pop : Mt.T .pop = "list" := rfl
@[simp] theorem MtT_join : Mt.T .join = "str" := rfl
@[simp] theorem MtT_split : Mt.T .split = "str" := rfl
@[simp] theorem MtT_starts : Mt.T .starts = "str" := rfl
@[simp] theorem MtT_count : Mt.T .count = "list" := rfl
theorem Keep.old {ds es : List Nat} {S S' : Sto} (a : Keep ds S S') (h : ∀ n ∈ ds, n ∈ es ∨ S.length ≤ n) : Keep es S S' := ⟨a.len, fun m o hm e => a.at_ m o (fun z => by
  rcases h m z with z | z
  · exact hm z
  · have := (List.getElem?_eq_some_iff.mp e).1; omega) e⟩
@[simp] theorem tyU_str {T : String} : tyU T S (.str s) = (T == "str") := rfl
@[simp] theorem tyU_int {T : String} : tyU T S (.int i) = (T == "int") := rfl
theorem tyU_lst {T : String} (h : S[n]? = some (.lst us)) : tyU T S (.loc n) = (T == "list") := by simp [tyU, h]
@[simp] theorem lenF_str : wpO (lenF [.str s] S) Q = (s.length ≤ LIM ∧ Q (.int s.length) S) := by simp [lenF, ite_else_false]
@[simp] theorem lenF_tup : lenF [.tup us] S = some (.int us.length, S) := rfl
theorem lenF_loc (h : seqAt S n = some us) : lenF [.loc n] S = some (.int us.length, S) := by simp [lenF, h]
@[simp] theorem listF_str : wpO (listF [.str s] S) Q = (s.length ≤ LIM ∧ Q (.loc S.length) (S ++ [.lst (s.map fun c => .str [c])])) := by simp [listF, ite_else_false]
@[simp] theorem listF_tup : listF [.tup us] S = some (.loc S.length, S ++ [.lst us]) := rfl
@[simp] theorem listF_cl : listF [.cl us] S = some (.loc S.length, S ++ [.lst us]) := rfl
theorem listF_loc (h : seqAt S n = some us) : listF [.loc n] S = some (.loc S.length, S ++ [.lst us]) := by simp [listF, h]
@[simp] theorem tupleF_tup : tupleF [.tup us] S = some (.tup us, S) := rfl
theorem tupleF_loc (h : seqAt S n = some us) : tupleF [.loc n] S = some (.tup us, S) := by simp [tupleF, h]
@[simp] theorem intF_int : intF [.int i] S = some (.int i, S) := rfl
@[simp] theorem ordF_one {c : Nat} : ordF [.str [c]] S = some (.int c, S) := rfl
@[simp] theorem seqAt_at (h : S[n]? = some (.lst us)) : seqAt S n = some us := by simp [seqAt, h]
theorem seqAt_frz (h : S[n]? = some (.frz us)) : seqAt S n = some us := by simp [seqAt, h]
@[simp] theorem isi_one_non {T : String} : isiF [.non, .ty T] S = (if knownT T then some (.bl (subT "NoneType" T), S) else none) := rfl
@[simp] theorem isi_one_bl {T : String} : isiF [.bl b, .ty T] S = (if knownT T then some (.bl (subT "bool" T), S) else none) := rfl
@[simp] theorem isi_one_int {T : String} : isiF [.int i, .ty T] S = (if knownT T then some (.bl (subT "int" T), S) else none) := rfl
@[simp] theorem isi_one_str {T : String} : isiF [.str s, .ty T] S = (if knownT T then some (.bl (subT "str" T), S) else none) := rfl
@[simp] theorem isi_one_tup {T : String} : isiF [.tup us, .ty T] S = (if knownT T then some (.bl (subT "tuple" T), S) else none) := rfl
theorem tyOf_loc (h : seqAt S n = some us) : tyOf S (.loc n) = some "list" := by
  unfold seqAt at h; unfold tyOf; dsimp only; split at h
  · rename_i q; rw [q]
  · rename_i q; rw [q]
  · cases h
theorem isi_one {T a : String} (h : tyOf S u = some a) : isiF [u, .ty T] S = (if knownT T then some (.bl (subT a T), S) else none) := by
  unfold isiF; dsimp only; rw [h]
theorem isi_two {T T2 a : String} (h : tyOf S u = some a) : isiF [u, .tup [.ty T, .ty T2]] S = (if knownT T = true ∧ knownT T2 = true then some (.bl (subT a T || subT a T2), S) else none) := by
  unfold isiF; dsimp only; rw [h]
end
section
variable {cf : CF} {env : Evn} {S S1 : Sto} {N B C : Evn → Sto → Prop} {Rt : U → Sto → Prop}
theorem wp_eq {α : Type} {r : R α} {x : α} (h : wp r fun a S' => a = x ∧ S' = S1) : r = .ok x S1 := by
  obtain ⟨a, S', e, h1, h2⟩ := wp_out h
  rw [e, h1, h2]
theorem wpS_forE {t : Tg} {it : It} {b : SL} {j : J} (h : wp (evI cf it env S) fun j' S' => j' = j ∧ S' = S1) (xs : List U) (Iv : Nat → Evn → Sto → Prop) (hl : j.len S1 = xs.length) (h0 : Iv 0 env S1) (hj : ∀ i e S, Iv i e S → j.at S i = some xs[i]?)
    (hN : ∀ e S, Iv xs.length e S → N e S) (step : ∀ i e S x, Iv i e S → xs[i]? = some x → wpG (evG cf t x e S) fun e1 S1 => wpS (evSs cf b e1 S1) (Iv (i + 1)) N (Iv (i + 1)) Rt) : wpS (evS cf (.for t it b) env S) N B C Rt :=
  wpS_forR (wp_mono h fun a S' ⟨e1, e2⟩ => by subst e1 e2; exact ⟨xs, Iv, hl, h0, hj, step, hN⟩)
theorem wp_compE {Q : U → Sto → Prop} {own : List Nat} {g : Tg} {it : It} {ifs : EO} {el : E} {j : J} (h : wp (evI cf it env S) fun j' S' => j' = j ∧ S' = S1) (xs : List U) (Iv : Nat → List U → Sto → Prop) (hl : j.len S1 = xs.length) (hL : xs.length ≤ LIM) (h0 : Iv 0 [] S1) (hj : ∀ i acc S, Iv i acc S → j.at S i = some xs[i]?)
    (hN : ∀ us S2, us.length ≤ xs.length → Iv xs.length us S2 → Q (.loc S2.length) (S2 ++ [.lst us]))
    (step : ∀ i acc S x, Iv i acc S → xs[i]? = some x → wpG (evG cf g x (wipeU env own) S) fun e1 S1 => wp (evB cf ifs e1 S1) fun b S2 => if b then wp (ev cf el e1 S2) fun y S3 => Iv (i + 1) (acc ++ [y]) S3 else Iv (i + 1) acc S2) : wp (ev cf (.comp own g it ifs el) env S) Q :=
  wp_compR (wp_mono h fun a S' ⟨e1, e2⟩ => by subst e1 e2; exact ⟨xs, Iv, hl, hL, h0, hj, step, hN⟩)
end
theorem popF_at {S : Sto} {n m : Nat} {us : List U} (h : S[n]? = some (.lst us)) (hm : m < us.length) (hb : us.length ≤ 1000000) : popF (.loc n) [.int (m : Int)] S = some (us[m], S.set n (.lst (us.eraseIdx m))) := by
  simp only [popF, h]
  rw [if_pos ⟨by omega, Sm.of (by omega)⟩]
  simp [hm]
theorem appendF_at {S : Sto} {n : Nat} {us : List U} {x : U} (h : S[n]? = some (.lst us)) (hl : us.length < LIM) : appendF (.loc n) [x] S = some (.non, S.set n (.lst (us ++ [x]))) := by
  simp only [appendF, h]
  rw [if_pos hl]
theorem perm_erase {α : Type} : ∀ {xs : List α} {m : Nat} (h : m < xs.length), (xs[m] :: xs.eraseIdx m).Perm xs
  | x :: xs, 0, _ => by simp
  | x :: xs, m + 1, h => by
    simp only [List.getElem_cons_succ, List.eraseIdx_cons_succ]
    exact (List.Perm.swap _ _ _).trans (List.Perm.cons _ (perm_erase (by simpa using h)))
end Bq

set_option linter.all false
set_option maxRecDepth 100000
set_option maxHeartbeats 4000000
/-! Fam1: the helpers of the drum laws. -/
namespace Bq
open PySem
open PyProof.Rows
open L2
def DrumAt (S : Sto) (d : Nat) : Prop := ∃ a b : Int, S[d]? = some (.lst [.int a, .int b])
theorem DrumAt.keep {S S' : Sto} {d : Nat} {ds : List Nat} (h : DrumAt S d) (k : Keep ds S S') (hd : d ∉ ds) : DrumAt S' d := by
  obtain ⟨a, b, e⟩ := h
  exact ⟨a, b, k.at_ d _ hd e⟩
def bBeat : SL :=
  (.cons (.as (.tp (.cons (.sb (.var 0) (.int 0)) (.cons (.sb (.var 0) (.int 1)) .nil))) (.tup (.cons (.bin .Mod (.bin .Add (.bin .Mult (.ix (.var 0) (.int 0)) (.int 40014)) (.ix (.var 0) (.int 1))) (.int 2147483563)) (.cons (.bin .Mod (.bin .Add (.bin .Mult (.ix (.var 0) (.int 1)) (.int 40692)) (.int 11)) (.int 2147483399)) .nil))))
  (.cons (.ret (.bin .Mod (.bin .FloorDiv (.bin .Add (.ix (.var 0) (.int 0)) (.ix (.var 0) (.int 1))) (.int 19)) (.var 1)))
  .nil))
def fnBeat : Fn := ⟨"_law_beat", ["drum", "many"], ["drum", "many"], bBeat⟩
theorem atI_nat {α : Type} {xs : List α} {n : Nat} (h : n < xs.length) : atI xs (n : Int) = some xs[n] := by
  unfold atI ixN
  rw [if_pos (by omega), if_pos (by omega)]
  simp
@[simp] theorem atI_zero {α : Type} {x : α} {xs : List α} : atI (x :: xs) 0 = some x := atI_nat (xs := x :: xs) (n := 0) (by simp)
@[simp] theorem atI_one {α : Type} {x y : α} {xs : List α} : atI (x :: y :: xs) 1 = some y := atI_nat (xs := x :: y :: xs) (n := 1) (by simp)
theorem ixF_loc {S : Sto} {n : Nat} {us : List U} {i : Int} {u : U} (h : seqAt S n = some us) (hi : atI us i = some u) : ixF (.loc n) (.int i) S = some (u, S) := by simp [ixF, h, hi]
theorem ixF_tup {S : Sto} {us : List U} {i : Int} {u : U} (hi : atI us i = some u) : ixF (.tup us) (.int i) S = some (u, S) := by simp [ixF, hi]
theorem ixF_str {S : Sto} {us : List Nat} {i : Int} {u : Nat} (hl : us.length ≤ LIM) (hi : atI us i = some u) : ixF (.str us) (.int i) S = some (.str [u], S) := by simp [ixF, hi, hl]
theorem setF_nat {S : Sto} {n j : Nat} {us : List U} {v : U} (h : S[n]? = some (.lst us)) (hj : j < us.length) : setF (.loc n) (.int (j : Int)) v S = some (S.set n (.lst (us.set j v))) := by
  simp only [setF, h]
  have : ixN us.length (j : Int) = some j := by unfold ixN; rw [if_pos (by omega), if_pos (by omega)]; simp
  rw [this]
theorem setF_zero {S : Sto} {n : Nat} {x : U} {us : List U} {v : U} (h : S[n]? = some (.lst (x :: us))) : setF (.loc n) (.int 0) v S = some (S.set n (.lst (v :: us))) := setF_nat (j := 0) h (by simp)
theorem setF_one {S : Sto} {n : Nat} {x y : U} {us : List U} {v : U} (h : S[n]? = some (.lst (x :: y :: us))) : setF (.loc n) (.int 1) v S = some (S.set n (.lst (x :: v :: us))) := setF_nat (j := 1) h (by simp)
theorem beat_ok {T : List Fn} {i k d : Nat} {S : Sto} {many : Int} (hT : T[i]? = some fnBeat) (hk : 0 < k) (hd : DrumAt S d) (hm : 0 < many) :
    wp (callF T k i [.loc d, .int many] S) fun u S' => ∃ r : Int, u = .int r ∧ 0 ≤ r ∧ r < many ∧ Keep [d] S S' ∧ DrumAt S' d ∧ S'.length = S.length := by
  obtain ⟨a, b, e⟩ := hd
  refine callF_step hT hk rfl ?_
  have hl : d < S.length := (List.getElem?_eq_some_iff.mp e).1
  have e0 : seqAt S d = some [.int a, .int b] := seqAt_at e
  have f0 : ixF (.loc d) (.int 0) S = some (.int a, S) := ixF_loc e0 (by simp)
  have f1 : ixF (.loc d) (.int 1) S = some (.int b, S) := ixF_loc e0 (by simp)
  have g1 : ∀ x : U, (S.set d (.lst [x, .int b]))[d]? = some (.lst [x, .int b]) := fun x => List.getElem?_set_self hl
  have g2 : ∀ x y : U, (S.set d (.lst [x, y]))[d]? = some (.lst [x, y]) := fun x y => List.getElem?_set_self hl
  have h0 : ∀ x y : U, ixF (.loc d) (.int 0) (S.set d (.lst [x, y])) = some (x, S.set d (.lst [x, y])) := fun x y => ixF_loc (seqAt_at (g2 x y)) (by simp)
  have h1 : ∀ x y : U, ixF (.loc d) (.int 1) (S.set d (.lst [x, y])) = some (y, S.set d (.lst [x, y])) := fun x y => ixF_loc (seqAt_at (g2 x y)) (by simp)
  simp [fnBeat, bBeat, f0, f1, BIG, LIM, Sm, TL.len, setF_zero e, setF_one (g1 _), List.set_set, h0, h1]
  exact ⟨hm, Int.emod_nonneg _ (by omega), Int.emod_lt_of_pos _ hm, Keep.set (by simp), ⟨_, _, g2 _ _⟩⟩
theorem slF_loc {S : Sto} {n : Nat} {us : List U} {lo hi : Option Int} (h : seqAt S n = some us) : slF (.loc n) lo hi S = some (.loc S.length, S ++ [.lst (cutL us lo hi)]) := by simp [slF, h]
@[simp] theorem slF_tup {S : Sto} {us : List U} {lo hi : Option Int} : slF (.tup us) lo hi S = some (.tup (cutL us lo hi), S) := rfl
@[simp] theorem slF_str {S : Sto} {us : List Nat} {lo hi : Option Int} {Q : U → Sto → Prop} : wpO (slF (.str us) lo hi S) Q = (us.length ≤ LIM ∧ Q (.str (cutL us lo hi)) S) := by simp [slF, ite_else_false]
theorem cutL_mem {α : Type} {xs : List α} {lo hi : Option Int} {x : α} (h : x ∈ cutL xs lo hi) : x ∈ xs := List.mem_of_mem_drop (List.mem_of_mem_take h)
@[simp] theorem asJ_tup {S : Sto} {us : List U} : asJ (.tup us) S = .ok (.vals us) S := rfl
@[simp] theorem asJ_str {S : Sto} {a : List Nat} : asJ (.str a) S = .ok (.vals (a.map fun c => .str [c])) S := rfl
theorem asJ_loc {S : Sto} {n : Nat} {us : List U} (h : seqAt S n = some us) : asJ (.loc n) S = .ok (.lst n) S := by simp [asJ, h]
@[simp] theorem J_at_vals {S : Sto} {i : Nat} {xs : List U} : J.at S i (.vals xs) = some xs[i]? := rfl
@[simp] theorem J_len_vals {S : Sto} {xs : List U} : J.len S (.vals xs) = xs.length := rfl
theorem J_at_lst {S : Sto} {i n : Nat} {us : List U} (h : seqAt S n = some us) : J.at S i (.lst n) = some us[i]? := by simp [J.at, h]
theorem J_len_lst {S : Sto} {n : Nat} {us : List U} (h : seqAt S n = some us) : J.len S (.lst n) = us.length := by simp [J.len, h]
theorem get_new {S : Sto} {o : Ob} : (S ++ [o])[S.length]? = some o := by simp
def bDrum : SL :=
  (.cons (.par 2 3 (.bin .Add (.int 907) (.bin .Mult (.int 61) (.var 1))) (.bin .Add (.int 30011) (.bin .Mult (.int 7) (.var 1))))
  (.cons (.for (.nm 4) (.sq (.sl (.bi .list (.cons (.var 0) .nil)) .no (.so (.int 60)))) (.cons (.as (.nm 5) (.bin .Mod (.bi .int (.cons (.var 4) .nil)) (.int 99991))) (.cons (.par 2 3 (.bin .Mod (.bin .Add (.bin .Mult (.var 2) (.int 53)) (.var 5)) (.int 60013)) (.bin .Mod (.bin .Add (.bin .Add (.bin .Mult (.var 3) (.int 59)) (.bin .Mult (.var 5) (.int 7))) (.var 2)) (.int 61001))) .nil)))
  (.cons (.ret (.lst (.cons (.bin .Add (.var 2) (.int 1)) (.cons (.bin .Add (.var 3) (.int 1)) .nil))))
  .nil)))
def fnDrum : Fn := ⟨"_law_drum", ["script", "hand"], ["script", "hand", "low", "high", "cell", "small"], bDrum⟩
theorem IsScr.list {S : Sto} {u : U} {ns : List Int} (h : IsScr S u ns) : listF [u] S = some (.loc S.length, S ++ [.lst (ns.map .int)]) := by
  rcases h with ⟨n, rfl, e⟩ | rfl
  · exact listF_loc (seqAt_frz e)
  · rfl
theorem IsScr.keep {S S' : Sto} {u : U} {ns : List Int} (h : IsScr S u ns) (k : Keep [] S S') : IsScr S' u ns := by
  rcases h with ⟨n, rfl, e⟩ | rfl
  · exact .inl ⟨n, rfl, k.at_ n _ (by simp) e⟩
  · exact .inr rfl
theorem drum_ok {T : List Fn} {i k : Nat} {S : Sto} {u : U} {ns : List Int} {hand : Int} (hT : T[i]? = some fnDrum) (hk : 0 < k) (hs : IsScr S u ns) :
    wp (callF T k i [u, .int hand] S) fun v S' => ∃ d, v = .loc d ∧ S.length ≤ d ∧ Keep [] S S' ∧ DrumAt S' d := by
  refine callF_step hT hk rfl ?_
  simp only [fnDrum, bDrum, wpS_cons]
  simp [BIG, Sm]
  have e1 : (S ++ [Ob.lst (ns.map .int)])[S.length]? = some (.lst (ns.map .int)) := get_new
  have e2 : (S ++ [Ob.lst (ns.map .int), .lst (cutL (ns.map .int) none (some 60))])[S.length + 1]? = some (.lst (cutL (ns.map .int) none (some 60))) := by
    rw [List.getElem?_append_right (by omega)]; simp
  refine wpS_forE (j := .lst (S.length + 1)) (S1 := S ++ [Ob.lst (ns.map .int), .lst (cutL (ns.map .int) none (some 60))]) ?_ (cutL (ns.map .int) none (some 60))
    (fun _ e S' => ∃ (lo hi : Int) (c s : Option U), e = [some u, some (.int hand), some (.int lo), some (.int hi), c, s] ∧ S' = S ++ [Ob.lst (ns.map .int), .lst (cutL (ns.map .int) none (some 60))]) ?_ ?_ ?_ ?_ ?_
  · simp [hs.list, slF_loc (seqAt_at e1), asJ_loc (seqAt_at e2)]
  · exact J_len_lst (seqAt_at e2)
  · exact ⟨_, _, _, _, rfl, rfl⟩
  · rintro i e S' ⟨lo, hi, c, s, rfl, rfl⟩
    exact J_at_lst (seqAt_at e2)
  · rintro e S' ⟨lo, hi, c, s, rfl, rfl⟩
    simp [LIM]
    exact ⟨Keep.app, ⟨lo + 1, hi + 1, by rw [List.getElem?_append_right (by omega)]; simp⟩⟩
  · rintro i e S' x ⟨lo, hi, c, s, rfl, rfl⟩ hx
    obtain ⟨n, _, rfl⟩ := List.mem_map.mp (cutL_mem (List.mem_of_getElem? hx))
    simp [BIG, Sm]
theorem rg1_nat {n : Nat} {S : Sto} (h : n ≤ 1000000000) : rgJ1 [.int (n : Int)] S = .ok (.vals (rngL 0 n)) S := by
  simp only [rgJ1]
  rw [if_pos (Sm.of (by omega))]
  rfl
theorem rg2_int {i j : Int} {S : Sto} (h : -1000000000 ≤ i ∧ i ≤ 1000000000) (h2 : -1000000000 ≤ j ∧ j ≤ 1000000000) : rgJ2 [.int i, .int j] S = .ok (.vals (rngL i (j - i).toNat)) S := by
  simp only [rgJ2]
  rw [if_pos ⟨Sm.of (by omega), Sm.of (by omega)⟩]
@[simp] theorem rngL_len {lo : Int} {n : Nat} : (rngL lo n).length = n := by simp [rngL]
theorem rngL_at {lo : Int} {n i : Nat} {x : U} (h : (rngL lo n)[i]? = some x) : i < n ∧ x = .int (lo + (i : Nat)) := by
  rw [rngL_get] at h
  split at h
  · cases h; exact ⟨by assumption, rfl⟩
  · cases h
/-! one of them -/
def bOne (ib : Nat) : SL :=
  (.cons (.ret (.ix (.var 1) (.call ib (.cons (.var 0) (.cons (.bi .len (.cons (.var 1) .nil)) .nil)))))
  .nil)
def fnOne (ib : Nat) : Fn := ⟨"_law_one", ["drum", "things"], ["drum", "things"], bOne ib⟩
theorem atI_some {α : Type} {xs : List α} {r : Int} (h0 : 0 ≤ r) (h1 : r < xs.length) : ∃ x, atI xs r = some x ∧ x ∈ xs := by
  obtain ⟨n, rfl⟩ := Int.eq_ofNat_of_zero_le h0
  exact ⟨_, atI_nat (by omega), List.getElem_mem _⟩
theorem one_str {T : List Fn} {i ib k d : Nat} {S : Sto} {a : List Nat} (hT : T[i]? = some (fnOne ib)) (hB : T[ib]? = some fnBeat) (hk : 1 < k) (hd : DrumAt S d) (ha : a ≠ []) (hl : a.length ≤ LIM) :
    wp (callF T k i [.loc d, .str a] S) fun u S' => ∃ c, u = .str [c] ∧ c ∈ a ∧ Keep [d] S S' ∧ DrumAt S' d ∧ S'.length = S.length := by
  refine callF_step hT (by omega) rfl ?_
  have hp : 0 < a.length := List.length_pos_iff.mpr ha
  simp [fnOne, bOne, hl]
  refine wp_mono (beat_ok hB (by omega) hd (by omega)) fun u S' ⟨r, e, h0, h1, h2, h3, h4⟩ => ?_
  subst e
  obtain ⟨c, e1, e2⟩ := atI_some h0 h1
  rw [ixF_str hl e1]
  exact ⟨c, rfl, e2, h2, h3, h4⟩
theorem one_loc {T : List Fn} {i ib k d n : Nat} {S : Sto} {us : List U} (hT : T[i]? = some (fnOne ib)) (hB : T[ib]? = some fnBeat) (hk : 1 < k) (hd : DrumAt S d) (hn : seqAt S n = some us) (hnd : n ≠ d) (hu : us ≠ []) :
    wp (callF T k i [.loc d, .loc n] S) fun u S' => u ∈ us ∧ Keep [d] S S' ∧ DrumAt S' d ∧ S'.length = S.length := by
  refine callF_step hT (by omega) rfl ?_
  have hp : 0 < us.length := List.length_pos_iff.mpr hu
  simp [fnOne, bOne, lenF_loc hn]
  refine wp_mono (beat_ok hB (by omega) hd (by omega)) fun u S' ⟨r, e, h0, h1, h2, h3, h4⟩ => ?_
  subst e
  obtain ⟨c, e1, e2⟩ := atI_some h0 h1
  rw [ixF_loc (h2.seq (by simpa using hnd) hn) e1]
  exact ⟨e2, h2, h3, h4⟩
theorem one_tup {T : List Fn} {i ib k d : Nat} {S : Sto} {us : List U} (hT : T[i]? = some (fnOne ib)) (hB : T[ib]? = some fnBeat) (hk : 1 < k) (hd : DrumAt S d) (hu : us ≠ []) :
    wp (callF T k i [.loc d, .tup us] S) fun u S' => u ∈ us ∧ Keep [d] S S' ∧ DrumAt S' d ∧ S'.length = S.length := by
  refine callF_step hT (by omega) rfl ?_
  have hp : 0 < us.length := List.length_pos_iff.mpr hu
  simp [fnOne, bOne]
  refine wp_mono (beat_ok hB (by omega) hd (by omega)) fun u S' ⟨r, e, h0, h1, h2, h3, h4⟩ => ?_
  subst e
  obtain ⟨c, e1, e2⟩ := atI_some h0 h1
  rw [ixF_tup e1]
  exact ⟨e2, h2, h3, h4⟩
/-! in another order -/
def bShuf (ib : Nat) : SL :=
  (.cons (.par 2 3 (.bi .list (.cons (.var 1) .nil)) (.lst .nil))
  (.cons (.for (.nm 4) (.rg1 (.bi .len (.cons (.var 2) .nil))) (.cons (.ex (.mt .append (.var 3) (.cons (.mt .pop (.var 2) (.cons (.call ib (.cons (.var 0) (.cons (.bi .len (.cons (.var 2) .nil)) .nil))) .nil)) .nil))) .nil))
  (.cons (.ret (.var 3))
  .nil)))
def fnShuf (ib : Nat) : Fn := ⟨"_law_shuffled", ["drum", "things"], ["drum", "things", "left", "found", "turn"], bShuf ib⟩
theorem shuf_ok {T : List Fn} {i ib k d : Nat} {S : Sto} {u : U} {us : List U} (hT : T[i]? = some (fnShuf ib)) (hB : T[ib]? = some fnBeat) (hk : 1 < k) (hd : DrumAt S d) (hl : us.length ≤ 1000000) (hu : listF [u] S = some (.loc S.length, S ++ [.lst us])) :
    wp (callF T k i [.loc d, u] S) fun v S' => ∃ n ws, v = .loc n ∧ S.length ≤ n ∧ S'[n]? = some (.lst ws) ∧ ws.Perm us ∧ Keep [d] S S' ∧ DrumAt S' d := by
  refine callF_step hT (by omega) rfl ?_
  have hdl : d < S.length := by obtain ⟨a, b, e⟩ := hd; exact (List.getElem?_eq_some_iff.mp e).1
  have e1 : (S ++ [Ob.lst us, .lst []])[S.length]? = some (.lst us) := by rw [List.getElem?_append_right (by omega)]; simp
  have e2 : (S ++ [Ob.lst us, .lst []])[S.length + 1]? = some (.lst []) := by rw [List.getElem?_append_right (by omega)]; simp
  simp only [fnShuf, bShuf, wpS_cons]
  simp [hu]
  refine wpS_forE (j := .vals (rngL 0 us.length)) (S1 := S ++ [Ob.lst us, .lst []]) ?_ (rngL 0 us.length)
    (fun i e S' => ∃ (c : Option U) (L Fd : List U), e = [some (.loc d), some u, some (.loc S.length), some (.loc (S.length + 1)), c] ∧ S'[S.length]? = some (.lst L) ∧ S'[S.length + 1]? = some (.lst Fd) ∧ (Fd ++ L).Perm us ∧ L.length + i = us.length ∧ Fd.length = i ∧ Keep [d, S.length, S.length + 1] S S' ∧ DrumAt S' d) ?_ ?_ ?_ ?_ ?_
  · simp [lenF_loc (seqAt_at e1), rg1_nat (show us.length ≤ 1000000000 by omega)]
  · simp
  · exact ⟨_, us, [], rfl, e1, e2, .refl _, rfl, rfl, Keep.app, hd.keep Keep.app (ds := []) (by simp)⟩
  · intros; rfl
  · rintro e S' ⟨c, L, Fd, rfl, h1, h2, h3, h4, h5, h6, h7⟩
    simp at h4
    have hL : L = [] := by cases L with | nil => rfl | cons _ _ => simp at h4
    subst hL
    rw [List.append_nil] at h3
    simp
    exact ⟨Fd, h2, h3, h6.old (by simp), h7⟩
  · rintro i e S' x ⟨c, L, Fd, rfl, h1, h2, h3, h4, h5, h6, h7⟩ hx
    obtain ⟨hi, rfl⟩ := rngL_at hx
    simp [tyU_lst h1, tyU_lst h2, lenF_loc (seqAt_at h1)]
    refine wp_mono (beat_ok hB (by omega) h7 (by omega)) fun v S2 ⟨r, e, r0, r1, k2, d2, l2⟩ => ?_
    subst e
    obtain ⟨m, rfl⟩ := Int.eq_ofNat_of_zero_le r0
    have hm : m < L.length := by omega
    have g1 : S2[S.length]? = some (.lst L) := k2.at_ _ _ (by simp; omega) h1
    have g2 : S2[S.length + 1]? = some (.lst Fd) := k2.at_ _ _ (by simp; omega) h2
    have hp := popF_at g1 hm (by omega)
    have g3 : (S2.set S.length (.lst (L.eraseIdx m)))[S.length + 1]? = some (.lst Fd) := by rw [List.getElem?_set_ne (by omega)]; exact g2
    have hL2 : S.length + 1 < S2.length := (List.getElem?_eq_some_iff.mp g2).1
    have ha := appendF_at (x := L[m]) g3 (by unfold LIM; omega)
    rw [hp]; simp only [wpO_some]; rw [ha]; simp only [wpO_some]
    refine ⟨L.eraseIdx m, ?_, Fd ++ [L[m]], ?_, ?_, ?_, ?_, ?_, ?_⟩
    · rw [List.getElem?_set_ne (by omega), List.getElem?_set_self (by omega)]
    · rw [List.getElem?_set_self (by simp; omega)]
    · refine List.Perm.trans ?_ h3
      rw [List.append_assoc]
      exact List.Perm.append_left _ (perm_erase hm)
    · rw [List.length_eraseIdx_of_lt hm]; omega
    · simp [h5]
    · exact (h6.trans (k2.mono (by simp))).trans ((Keep.set (by simp)).trans (Keep.set (by simp)))
    · exact (d2.keep (Keep.set (ds := [S.length]) (by simp)) (by simp; omega)).keep (Keep.set (ds := [S.length + 1]) (by simp)) (by simp; omega)
end Bq

set_option linter.all false
set_option maxRecDepth 100000
set_option maxHeartbeats 4000000
/-! Fam2: alike things. -/
namespace Bq
open PySem
open PyProof.Rows
open L2
def Same (S : Sto) : Nat → U → U → Prop
  | 0, .non, .non => True
  | 0, .bl a, .bl b => a = b
  | 0, .int a, .int b => a = b
  | 0, .str a, .str b => a = b
  | 0, _, _ => False
  | n + 1, .tup us, .tup ws => us.length = ws.length ∧ us.length ≤ LIM ∧ ∀ (i : Nat) (x y : U), us[i]? = some x → ws[i]? = some y → Same S n x y
  | n + 1, .loc l, .loc m => ∃ us ws, seqAt S l = some us ∧ seqAt S m = some ws ∧ us.length = ws.length ∧ us.length ≤ LIM ∧ ∀ (i : Nat) (x y : U), us[i]? = some x → ws[i]? = some y → Same S n x y
  | _ + 1, .non, .non => True
  | _ + 1, .bl a, .bl b => a = b
  | _ + 1, .int a, .int b => a = b
  | _ + 1, .str a, .str b => a = b
  | _ + 1, _, _ => False
theorem Same.keep {S S' : Sto} (k : Keep [] S S') : ∀ {n : Nat} {a b : U}, Same S n a b → Same S' n a b := by
  intro n
  induction n with
  | zero => intro a b h; cases a <;> cases b <;> first | exact h | exact False.elim h
  | succ n ih =>
    intro a b h
    cases a <;> cases b <;> first | exact h | exact False.elim h | skip
    · obtain ⟨h1, h2, h3⟩ := h
      exact ⟨h1, h2, fun i x y e e' => ih (h3 i x y e e')⟩
    · obtain ⟨us, ws, h1, h2, h3, h4, h5⟩ := h
      exact ⟨us, ws, k.seq (by simp) h1, k.seq (by simp) h2, h3, h4, fun i x y e e' => ih (h5 i x y e e')⟩
theorem mapO_bl : ∀ {us : List U}, (∀ u ∈ us, u = .bl true) → mapO asBl us = some (us.map fun _ => true)
  | [], _ => rfl
  | u :: us, h => by
    have e := h u (by simp)
    subst e
    simp [mapO, asBl, mapO_bl (us := us) fun u hu => h u (List.mem_cons_of_mem _ hu)]
theorem allF_true {S : Sto} {n : Nat} {us : List U} (h : seqAt S n = some us) (ht : ∀ u ∈ us, u = .bl true) : allF [.loc n] S = some (.bl true, S) := by
  simp [allF, blsAt, h, mapO_bl ht]
theorem J_at_zp {S : Sto} {i : Nat} {a b : J} {us ws : List U} (ha : J.at S i a = some us[i]?) (hb : J.at S i b = some ws[i]?) : J.at S i (.zp a b) = some (List.zipWith (fun x y => U.tup [x, y]) us ws)[i]? := by
  simp only [J.at, ha, hb]
  rw [List.getElem?_zipWith]
  cases us[i]? with
  | none => rfl
  | some x => cases ws[i]? <;> rfl
def bSame (is : Nat) : SL :=
  (.cons (.ite (.bi .isi (.cons (.var 1) (.cons (.tup (.cons (.ty "tuple") (.cons (.ty "list") .nil))) .nil))) (.cons (.ite (.or (.cons (.cmp .NotEq (.bi .isi (.cons (.var 1) (.cons (.ty "tuple") .nil))) (.bi .isi (.cons (.var 0) (.cons (.ty "tuple") .nil)))) (.cons (.not (.bi .isi (.cons (.var 0) (.cons (.tup (.cons (.ty "tuple") (.cons (.ty "list") .nil))) .nil)))) (.cons (.cmp .NotEq (.bi .len (.cons (.var 0) .nil)) (.bi .len (.cons (.var 1) .nil))) .nil)))) (.cons (.ret (.bl false)) .nil) .nil) (.cons (.ret (.bi .all (.cons (.comp [2, 3] (.tp (.cons (.nm 2) (.cons (.nm 3) .nil))) (.zp (.var 0) (.var 1)) .no (.call is (.cons (.var 2) (.cons (.var 3) .nil)))) .nil))) .nil)) .nil)
  (.cons (.ite (.cmp .Is (.var 1) .non) (.cons (.ret (.cmp .Is (.var 0) .non)) .nil) .nil)
  (.cons (.ite (.or (.cons (.bi .isi (.cons (.var 1) (.cons (.ty "bool") .nil))) (.cons (.bi .isi (.cons (.var 0) (.cons (.ty "bool") .nil))) .nil))) (.cons (.ret (.and (.cons (.bi .isi (.cons (.var 1) (.cons (.ty "bool") .nil))) (.cons (.bi .isi (.cons (.var 0) (.cons (.ty "bool") .nil))) (.cons (.cmp .Eq (.var 0) (.var 1)) .nil))))) .nil) .nil)
  (.cons (.ite (.bi .isi (.cons (.var 1) (.cons (.ty "int") .nil))) (.cons (.ret (.and (.cons (.bi .isi (.cons (.var 0) (.cons (.ty "int") .nil))) (.cons (.cmp .Eq (.var 0) (.var 1)) .nil)))) .nil) .nil)
  (.cons (.ite (.bi .isi (.cons (.var 1) (.cons (.ty "dict") .nil))) (.cons (.ret (.and (.cons (.bi .isi (.cons (.var 0) (.cons (.ty "dict") .nil))) (.cons (.cmp .Eq (.var 0) (.var 1)) .nil)))) .nil) .nil)
  (.cons (.ret (.and (.cons (.bi .isi (.cons (.var 1) (.cons (.ty "str") .nil))) (.cons (.bi .isi (.cons (.var 0) (.cons (.ty "str") .nil))) (.cons (.cmp .Eq (.var 0) (.var 1)) .nil)))))
  .nil))))))
def fnSame (is : Nat) : Fn := ⟨"_law_same", ["told", "due"], ["told", "due", "one", "other"], bSame is⟩
theorem same_flat {T : List Fn} {i k : Nat} {S : Sto} {a b : U} (hT : T[i]? = some (fnSame i)) (hk : 0 < k) (h : Same S 0 a b) : wp (callF T k i [a, b] S) fun u S' => u = .bl true ∧ Keep [] S S' := by
  refine callF_step hT hk rfl ?_
  have sub1 : subT "str" "tuple" = false := by decide
  have kn : knownT "tuple" = true ∧ knownT "list" = true ∧ knownT "bool" = true ∧ knownT "int" = true ∧ knownT "dict" = true ∧ knownT "str" = true := by decide
  obtain ⟨k1, k2, k3, k4, k5, k6⟩ := kn
  cases a <;> cases b <;> first | exact False.elim h | skip
  · have ht := fun S => isi_two (S := S) (u := .non) (T := "tuple") (T2 := "list") (a := "NoneType") rfl
    simp [fnSame, bSame, ht, k1, k2, LIM, show (subT "NoneType" "tuple" || subT "NoneType" "list") = false by decide, Keep.refl]
  · rename_i a b
    have h : a = b := h
    subst h
    have ht := fun S => isi_two (S := S) (u := .bl a) (T := "tuple") (T2 := "list") (a := "bool") rfl
    simp [fnSame, bSame, ht, k1, k2, k3, LIM, show (subT "bool" "tuple" || subT "bool" "list") = false by decide, show subT "bool" "bool" = true by decide, Keep.refl]
  · rename_i a b
    have h : a = b := h
    subst h
    have ht := fun S => isi_two (S := S) (u := .int a) (T := "tuple") (T2 := "list") (a := "int") rfl
    simp [fnSame, bSame, ht, k1, k2, k3, k4, LIM, show (subT "int" "tuple" || subT "int" "list") = false by decide, show subT "int" "bool" = false by decide, show subT "int" "int" = true by decide, Keep.refl]
  · rename_i a b
    have h : a = b := h
    subst h
    have ht := fun S => isi_two (S := S) (u := .str a) (T := "tuple") (T2 := "list") (a := "str") rfl
    simp [fnSame, bSame, ht, k1, k2, k3, k4, k5, k6, LIM, show (subT "str" "tuple" || subT "str" "list") = false by decide, show subT "str" "bool" = false by decide, show subT "str" "int" = false by decide, show subT "str" "dict" = false by decide, show subT "str" "str" = true by decide, Keep.refl]
theorem Same.up {S : Sto} : ∀ {n : Nat} {a b : U}, Same S n a b → Same S (n + 1) a b := by
  intro n
  induction n with
  | zero => intro a b h; cases a <;> cases b <;> first | exact h | exact False.elim h
  | succ n ih =>
    intro a b h
    cases a <;> cases b <;> first | exact h | exact False.elim h | skip
    · obtain ⟨h1, h2, h3⟩ := h
      exact ⟨h1, h2, fun i x y e e' => ih (h3 i x y e e')⟩
    · obtain ⟨us, ws, h1, h2, h3, h4, h5⟩ := h
      exact ⟨us, ws, h1, h2, h3, h4, fun i x y e e' => ih (h5 i x y e e')⟩
/-- the inner part: the pairs one by one -/
theorem same_all {T : List Fn} {i k n : Nat} {S S0 : Sto} {j : J} {us ws : List U} {a b : U} {Q : U → Sto → Prop} (hj : ∀ S', Keep [] S S' → ∀ m, J.at S' m j = some (List.zipWith (fun x y => U.tup [x, y]) us ws)[m]?) (hl : J.len S j = min us.length ws.length)
    (hw : us.length = ws.length) (hL : us.length ≤ LIM) (ih : ∀ x y S', x ∈ us → y ∈ ws → Keep [] S S' → Same S' n x y → wp (callF T k i [x, y] S') fun u S'' => u = .bl true ∧ Keep [] S' S'')
    (hs : ∀ (m : Nat) x y, us[m]? = some x → ws[m]? = some y → Same S n x y) (hi : evI (callF T k) (.zp (.var 0) (.var 1)) [some a, some b, none, none] S0 = .ok j S) (hQ : ∀ S', Keep [] S S' → Q (.bl true) S') :
    wp (ev (callF T k) (.comp [2, 3] (.tp (.cons (.nm 2) (.cons (.nm 3) .nil))) (.zp (.var 0) (.var 1)) .no (.call i (.cons (.var 2) (.cons (.var 3) .nil)))) [some a, some b, none, none] S0) fun u S1 => wpO (allF [u] S1) Q := by
  have hz : (List.zipWith (fun x y => U.tup [x, y]) us ws).length = us.length := by rw [List.length_zipWith, ← hw, Nat.min_self]
  refine wp_compE (j := j) (S1 := S) (by rw [hi]; exact ⟨rfl, rfl⟩) (List.zipWith (fun x y => U.tup [x, y]) us ws) (fun _ acc S' => Keep [] S S' ∧ ∀ u ∈ acc, u = .bl true) (by rw [hl, hz, ← hw, Nat.min_self]) (by rw [hz]; exact hL) ⟨.refl, by simp⟩ (fun m acc S' h => hj S' h.1 m) ?_ ?_
  · intro acc S' _ ⟨h1, h2⟩
    rw [allF_true (seqAt_at get_new) h2]
    exact hQ _ (h1.trans Keep.app)
  · intro m acc S' p ⟨h1, h2⟩ hp
    rw [List.getElem?_zipWith] at hp
    cases q1 : us[m]? with
    | none => rw [q1] at hp; cases hp
    | some x =>
      cases q2 : ws[m]? with
      | none => rw [q1, q2] at hp; cases hp
      | some y =>
        rw [q1, q2] at hp
        cases hp
        simp [wipeU, TL.len]
        refine wp_mono (ih x y S' (List.mem_of_getElem? q1) (List.mem_of_getElem? q2) h1 ((hs m x y q1 q2).keep h1)) fun u S'' ⟨e, kk⟩ => ?_
        subst e
        refine ⟨h1.trans kk, fun u hu => ?_⟩
        rcases hu with hu | hu
        · exact h2 u hu
        · exact hu
theorem same_ok {T : List Fn} {i : Nat} (hT : T[i]? = some (fnSame i)) : ∀ (n k : Nat) (S : Sto) (a b : U), n < k → Same S n a b → wp (callF T k i [a, b] S) fun u S' => u = .bl true ∧ Keep [] S S' := by
  have kn : knownT "tuple" = true ∧ knownT "list" = true ∧ knownT "bool" = true ∧ knownT "int" = true ∧ knownT "dict" = true ∧ knownT "str" = true := by decide
  obtain ⟨k1, k2, k3, k4, k5, k6⟩ := kn
  intro n
  induction n with
  | zero => intro k S a b hk h; exact same_flat hT hk h
  | succ n ih =>
    intro k S a b hk h
    cases a <;> cases b <;> first | exact same_flat hT (by omega) h | exact False.elim h | skip
    · rename_i us ws
      obtain ⟨h1, h2, h3⟩ := h
      refine callF_step hT (by omega) rfl ?_
      have ht := fun (S : Sto) (us : List U) => isi_two (S := S) (u := .tup us) (T := "tuple") (T2 := "list") (a := "tuple") rfl
      simp only [fnSame, bSame, wpS_cons]
      simp [ht, k1, k2, LIM, show (subT "tuple" "tuple" || subT "tuple" "list") = true by decide, h1]
      refine same_all (j := .zp (.vals us) (.vals ws)) (S := S) (n := n) (fun S' _ m => J_at_zp rfl rfl) rfl h1 h2 (fun x y S' _ _ _ hs => ih (k - 1) S' x y (by omega) hs) h3 (wp_eq (by simp [zpJ])) (fun S' hk => ⟨rfl, hk⟩)
    · rename_i l m
      obtain ⟨us, ws, e1, e2, h1, h2, h3⟩ := h
      refine callF_step hT (by omega) rfl ?_
      have hta : ∀ us, isiF [.loc l, .tup [.ty "tuple", .ty "list"]] S = _ := fun us : List U => isi_two (S := S) (u := .loc l) (T := "tuple") (T2 := "list") (a := "list") (tyOf_loc e1)
      have htb : ∀ us, isiF [.loc m, .tup [.ty "tuple", .ty "list"]] S = _ := fun us : List U => isi_two (S := S) (u := .loc m) (T := "tuple") (T2 := "list") (a := "list") (tyOf_loc e2)
      have hoa := isi_one (S := S) (u := .loc l) (T := "tuple") (a := "list") (tyOf_loc e1)
      have hob := isi_one (S := S) (u := .loc m) (T := "tuple") (a := "list") (tyOf_loc e2)
      simp only [fnSame, bSame, wpS_cons]
      simp [hta [], htb [], hoa, hob, k1, k2, LIM, show (subT "list" "tuple" || subT "list" "list") = true by decide, h1, lenF_loc e1, lenF_loc e2]
      refine same_all (j := .zp (.lst l) (.lst m)) (S := S) (n := n) (fun S' kk mm => J_at_zp (J_at_lst (kk.seq (by simp) e1)) (J_at_lst (kk.seq (by simp) e2))) (by simp [J.len, e1, e2]) h1 h2 (fun x y S' _ _ _ hs => ih (k - 1) S' x y (by omega) hs) h3 (wp_eq (by simp [zpJ, e1, e2])) (fun S' hk => ⟨rfl, hk⟩)
end Bq

set_option linter.all false
set_option maxRecDepth 100000
set_option maxHeartbeats 4000000
/-! Bq21: comprehensions that map. -/
namespace Bq
open PySem
open PyProof.Rows
open L2
/-- pair by pair -/
def All2 (P : U → U → Prop) : List U → List U → Prop
  | [], [] => True
  | x :: xs, y :: ys => P x y ∧ All2 P xs ys
  | _, _ => False
theorem All2.snoc {P : U → U → Prop} : ∀ {xs ys : List U} {x y : U}, All2 P xs ys → P x y → All2 P (xs ++ [x]) (ys ++ [y])
  | [], [], _, _, _, h => ⟨h, trivial⟩
  | _ :: _, _ :: _, _, _, h, h' => ⟨h.1, All2.snoc h.2 h'⟩
  | [], _ :: _, _, _, h, _ => h.elim
  | _ :: _, [], _, _, h, _ => h.elim
theorem All2.length {P : U → U → Prop} : ∀ {xs ys : List U}, All2 P xs ys → xs.length = ys.length
  | [], [], _ => rfl
  | _ :: _, _ :: _, h => by simp [All2.length h.2]
  | [], _ :: _, h => h.elim
  | _ :: _, [], h => h.elim
theorem All2.mem {P : U → U → Prop} : ∀ {xs ys : List U}, All2 P xs ys → ∀ y ∈ ys, ∃ x ∈ xs, P x y
  | [], [], _, _, h => by simp at h
  | x :: xs, z :: ys, h, y, hy => by
    rcases List.mem_cons.mp hy with e | e
    · subst e; exact ⟨x, by simp, h.1⟩
    · obtain ⟨w, h1, h2⟩ := All2.mem h.2 y e
      exact ⟨w, List.mem_cons_of_mem _ h1, h2⟩
  | [], _ :: _, h, _, _ => h.elim
  | _ :: _, [], h, _, _ => h.elim
theorem All2.map {f : U → U} : ∀ {xs ys : List U}, All2 (fun x y => y = f x) xs ys → ys = xs.map f
  | [], [], _ => rfl
  | x :: xs, y :: ys, h => by rw [h.1, All2.map h.2]; rfl
  | [], _ :: _, h => h.elim
  | _ :: _, [], h => h.elim
theorem All2.get {P : U → U → Prop} : ∀ {xs ys : List U}, All2 P xs ys → ∀ (i : Nat) (x y : U), xs[i]? = some x → ys[i]? = some y → P x y
  | [], [], _, _, _, _, h, _ => by simp at h
  | x :: xs, z :: ys, h, 0, a, b, e, e' => by simp at e e'; subst e e'; exact h.1
  | x :: xs, z :: ys, h, i + 1, a, b, e, e' => All2.get h.2 i a b (by simpa using e) (by simpa using e')
  | [], _ :: _, h, _, _, _, _, _ => h.elim
  | _ :: _, [], h, _, _, _, _, _ => h.elim
section
variable {cf : CF} {env : Evn} {S S1 : Sto}
theorem take_snoc {α : Type} {xs : List α} {i : Nat} {x : α} (h : xs[i]? = some x) : xs.take (i + 1) = xs.take i ++ [x] := by
  rw [List.take_succ, h]; rfl
theorem wp_compM {Q : U → Sto → Prop} {own : List Nat} {g : Tg} {it : It} {el : E} {j : J} (h : wp (evI cf it env S) fun j' S' => j' = j ∧ S' = S1) (xs : List U) (M : Sto → Prop) (P : U → U → Prop) (hl : j.len S1 = xs.length) (hL : xs.length ≤ LIM) (h0 : M S1) (hj : ∀ S i, M S → j.at S i = some xs[i]?)
    (hN : ∀ us S2, M S2 → All2 P xs us → Q (.loc S2.length) (S2 ++ [.lst us]))
    (step : ∀ S x, M S → x ∈ xs → wpG (evG cf g x (wipeU env own) S) fun e1 S1 => wp (ev cf el e1 S1) fun y S3 => M S3 ∧ P x y) : wp (ev cf (.comp own g it .no el) env S) Q := by
  refine wp_compE h xs (fun i acc S => M S ∧ All2 P (xs.take i) acc) hl hL ⟨h0, trivial⟩ (fun i acc S hi => hj S i hi.1) (fun us S2 _ hi => hN us S2 hi.1 (by have := hi.2; rwa [List.take_length] at this)) (fun i acc S x hi hx => ?_)
  have st := step S x hi.1 (List.mem_of_getElem? hx)
  revert st
  generalize evG cf g x (wipeU env own) S = r
  cases r with
  | stuck => exact fun z => z.elim
  | ok e1 S1 =>
    simp only [wpG_ok, wpB_no, if_true]
    exact fun st => wp_mono st fun y S3 hy => ⟨hy.1, by rw [take_snoc hx]; exact hi.2.snoc hy.2⟩
theorem wp_compA {α : Type} {Q : U → Sto → Prop} {own : List Nat} {g : Tg} {it : It} {el : E} {j : J} (h : wp (evI cf it env S) fun j' S' => j' = j ∧ S' = S1) (a : List α) (mk f : α → U) (M : Sto → Prop) (hl : j.len S1 = a.length) (hL : a.length ≤ LIM) (h0 : M S1) (hj : ∀ S i, M S → j.at S i = some (a.map mk)[i]?)
    (hN : ∀ S2, M S2 → Q (.loc S2.length) (S2 ++ [.lst (a.map f)]))
    (step : ∀ S c, M S → c ∈ a → wpG (evG cf g (mk c) (wipeU env own) S) fun e1 S1 => wp (ev cf el e1 S1) fun y S3 => M S3 ∧ y = f c) : wp (ev cf (.comp own g it .no el) env S) Q := by
  refine wp_compE h (a.map mk) (fun i acc S => M S ∧ acc = (a.take i).map f) (by rw [hl, List.length_map]) (by rw [List.length_map]; exact hL) ⟨h0, rfl⟩ (fun i acc S hi => hj S i hi.1) (fun us S2 _ hi => by rw [List.length_map, List.take_length] at hi; rw [hi.2]; exact hN S2 hi.1) (fun i acc S x hi hx => ?_)
  rw [List.getElem?_map] at hx
  cases q : a[i]? with
  | none => rw [q] at hx; cases hx
  | some c =>
    rw [q] at hx; cases hx
    have st := step S c hi.1 (List.mem_of_getElem? q)
    revert st
    generalize evG cf g (mk c) (wipeU env own) S = r
    cases r with
    | stuck => exact fun z => z.elim
    | ok e1 S1 =>
      simp only [wpG_ok, wpB_no, if_true]
      exact fun st => wp_mono st fun y S3 hy => ⟨hy.1, by rw [take_snoc q, hi.2, hy.2]; simp⟩
/-- a list gathered with a test -/
theorem wp_compF {Q : U → Sto → Prop} {own : List Nat} {g : Tg} {it : It} {e el : E} {j : J} (h : wp (evI cf it env S) fun j' S' => j' = j ∧ S' = S1) (xs : List U) (M : Sto → Prop) (p : U → Bool) (f : U → U) (hl : j.len S1 = xs.length) (hL : xs.length ≤ LIM) (h0 : M S1) (hj : ∀ S i, M S → j.at S i = some xs[i]?)
    (hN : ∀ S2, M S2 → Q (.loc S2.length) (S2 ++ [.lst ((xs.filter p).map f)]))
    (step : ∀ S x, M S → x ∈ xs → wpG (evG cf g x (wipeU env own) S) fun e1 S1 => wp (ev cf e e1 S1) fun u S2 => u = .bl (p x) ∧ M S2 ∧ (p x = true → wp (ev cf el e1 S2) fun y S3 => M S3 ∧ y = f x)) : wp (ev cf (.comp own g it (.so e) el) env S) Q := by
  refine wp_compE h xs (fun i acc S => M S ∧ acc = ((xs.take i).filter p).map f) hl hL ⟨h0, rfl⟩ (fun i acc S hi => hj S i hi.1) (fun us S2 _ hi => by rw [hi.2, List.take_length]; exact hN S2 hi.1) (fun i acc S x hi hx => ?_)
  have st := step S x hi.1 (List.mem_of_getElem? hx)
  revert st
  generalize evG cf g x (wipeU env own) S = r
  cases r with
  | stuck => exact fun z => z.elim
  | ok e1 S1 =>
    simp only [wpG_ok, wpB_so]
    refine fun st => wp_mono st fun u S2 ⟨e2, h2, h3⟩ => ?_
    subst e2
    simp only [wp_asB]
    cases q : p x with
    | false => simp only [Bool.false_eq_true, if_false]; exact ⟨h2, by rw [take_snoc hx, List.filter_append, hi.2]; simp [q]⟩
    | true => simp only [if_true]; exact wp_mono (h3 q) fun y S3 hy => ⟨hy.1, by rw [take_snoc hx, List.filter_append, hi.2, hy.2]; simp [q]⟩
end
open PySem.Builtin.Str in
theorem starts_eq (a b : List Nat) : Txt.startswith (mkS a) (mkS b) = (a.take b.length == b) := by
  unfold Txt.startswith
  rw [PySem.StrLaws.subAt_eq, mkS_len, mkS_len, str_toList, str_toList]
  by_cases h : b.length ≤ a.length
  · simp [h]
  · have : (a.take b.length == b) = false := by
      rw [beq_eq_false_iff_ne]
      intro e
      have := congrArg List.length e
      rw [List.length_take] at this
      omega
    simp [this]
theorem mapO_bls_map {α : Type} (p : α → Bool) : ∀ xs : List α, mapO asBl (xs.map fun c => U.bl (p c)) = some (xs.map p)
  | [] => rfl
  | x :: xs => by simp [mapO, asBl, mapO_bls_map p xs]
theorem anyF_map {α : Type} {S : Sto} {n : Nat} {xs : List α} {p : α → Bool} (h : seqAt S n = some (xs.map fun c => U.bl (p c))) : anyF [.loc n] S = some (.bl (xs.any p), S) := by
  simp only [anyF, blsAt, h, mapO_bls_map p xs]
  simp [List.any_map]
theorem allF_map {α : Type} {S : Sto} {n : Nat} {xs : List α} {p : α → Bool} (h : seqAt S n = some (xs.map fun c => U.bl (p c))) : allF [.loc n] S = some (.bl (xs.all p), S) := by
  simp only [allF, blsAt, h, mapO_bls_map p xs]
  simp [List.all_map]
@[simp] theorem one_lt {a b : Nat} : ([a] < [b]) = (a < b) := by simp [List.cons_lt_cons_iff]
theorem mapO_strs_map {α : Type} (p : α → List Nat) : ∀ xs : List α, mapO asS (xs.map fun c => U.str (p c)) = some (xs.map p)
  | [] => rfl
  | x :: xs => by simp [mapO, asS, mapO_strs_map p xs]
theorem joinL_nil : ∀ xs : List (List Nat), TL.joinL [] xs = xs.flatten
  | [] => rfl
  | [x] => by simp [TL.joinL]
  | x :: y :: r => by simp only [TL.joinL, List.nil_append, joinL_nil (y :: r), List.flatten_cons]
theorem joinF_map {α : Type} {S : Sto} {n : Nat} {xs : List α} {p : α → List Nat} {Q : U → Sto → Prop} (h : seqAt S n = some (xs.map fun c => U.str (p c))) : wpO (joinF (.str []) [.loc n] S) Q = (((xs.map p).map List.length).sum ≤ LIM ∧ Q (.str (xs.map p).flatten) S) := by
  simp only [joinF, strsOf, h, mapO_strs_map p xs]
  simp [ite_else_false, joinL_nil]
def enumU (k : Int) (us : List U) : List U := us.zipIdx.map fun p => .tup [.int (k + (p.2 : Nat)), p.1]
@[simp] theorem enumU_len {k : Int} {us : List U} : (enumU k us).length = us.length := by simp [enumU]
theorem enumU_get {k : Int} {us : List U} {i : Nat} : (enumU k us)[i]? = (us[i]?).map fun u => .tup [.int (k + (i : Nat)), u] := by
  unfold enumU
  rw [List.getElem?_map, List.getElem?_zipIdx]
  cases us[i]? <;> simp
theorem enumU_mem {k : Int} {us : List U} {x : U} (h : x ∈ enumU k us) : ∃ (i : Nat) (u : U), us[i]? = some u ∧ x = .tup [.int (k + (i : Nat)), u] := by
  obtain ⟨i, e⟩ := List.mem_iff_getElem?.mp h
  rw [enumU_get] at e
  cases q : us[i]? with
  | none => rw [q] at e; cases e
  | some u => rw [q] at e; cases e; exact ⟨i, u, q, rfl⟩
theorem J_at_en {S : Sto} {i : Nat} {k : Int} {j : J} {us : List U} (h : J.at S i j = some us[i]?) : J.at S i (.en k j) = some (enumU k us)[i]? := by
  simp only [J.at, h]
  rw [enumU_get]
  cases us[i]? <;> rfl
@[simp] theorem J_len_en {S : Sto} {k : Int} {j : J} : J.len S (.en k j) = J.len S j := rfl
@[simp] theorem enJ_tup {S : Sto} {us : List U} : enJ [.tup us] S = .ok (.en 0 (.vals us)) S := rfl
theorem enJ_loc {S : Sto} {n : Nat} {us : List U} (h : seqAt S n = some us) : enJ [.loc n] S = .ok (.en 0 (.lst n)) S := by simp [enJ, h]
theorem eqB_nil {S : Sto} {n m : Nat} (h : seqAt S n = some []) (h' : seqAt S m = some []) : eqB S (.loc n) (.loc m) = some true := by
  simp [eqB, scalS, toD, h, h', mapO]
  decide
theorem choose_map {α : Type} {P : α → Prop} {f : α → U} : ∀ {us : List U}, (∀ u ∈ us, ∃ c, u = f c ∧ P c) → ∃ cs : List α, us = cs.map f ∧ ∀ c ∈ cs, P c
  | [], _ => ⟨[], rfl, by simp⟩
  | u :: us, h => by
    obtain ⟨c, e, p⟩ := h u (by simp)
    obtain ⟨cs, e2, p2⟩ := choose_map (us := us) fun u hu => h u (List.mem_cons_of_mem _ hu)
    exact ⟨c :: cs, by rw [e, e2]; rfl, fun x hx => (List.mem_cons.mp hx).elim (fun z => by rw [z]; exact p) (p2 x)⟩
theorem flat_ones {α : Type} : ∀ cs : List α, (cs.map fun c => [c]).flatten = cs
  | [] => rfl
  | c :: cs => by simp [flat_ones cs]
theorem sum_ones {α : Type} : ∀ cs : List α, ((cs.map fun c => [c]).map List.length).sum = cs.length
  | [] => rfl
  | c :: cs => by simp only [List.map_cons, List.sum_cons, sum_ones cs, List.length_cons, List.length_nil]; omega
theorem cutL_to {α : Type} {a : List α} {s : Nat} : cutL a none (some (s : Int)) = a.take s := by
  unfold cutL
  simp [HT.sIx_none, HT.sIx_nat]
theorem cutL_from {α : Type} {a : List α} {s : Nat} : cutL a (some (s : Int)) none = a.drop s := by
  unfold cutL
  rw [HT.sIx_none, HT.sIx_nat]
  by_cases h : s ≤ a.length
  · rw [Nat.min_eq_left h, ← List.length_drop, List.take_length]
  · rw [Nat.min_eq_right (by omega), List.drop_eq_nil_of_le (Nat.le_refl _), List.drop_eq_nil_of_le (by omega)]; simp
theorem cutL_butlast {α : Type} {a : List α} : cutL a none (some (-1)) = a.take (a.length - 1) := by
  unfold cutL
  rw [HT.sIx_none]
  have : HT.sIx a.length a.length (some (-1)) = a.length - 1 := by
    unfold HT.sIx
    simp
    omega
  rw [this]; simp
theorem cutL_len {α : Type} {a : List α} {lo hi : Option Int} : (cutL a lo hi).length ≤ a.length := by
  unfold cutL
  simp
  omega
end Bq

set_option linter.all false
set_option maxRecDepth 100000
set_option maxHeartbeats 0
namespace K17
open PySem Bq
def b_is_line_of : SL :=
  (.cons (.ite (.or (.cons (.not (.bi .isi (.cons (.var 0) (.cons (.ty "str") .nil)))) (.cons (.bi .any (.cons (.comp [1] (.nm 1) (.sq (.var 0)) .no (.not (.chn .LtE .LtE (.str [32]) (.var 1) (.str [126])))) .nil)) .nil))) (.cons (.ret (.bl false)) .nil) .nil)
  (.cons (.ret (.or (.cons (.cmp .LtE (.bi .len (.cons (.var 0) .nil)) (.gl "MOST_SIGNS" (.int 200))) (.cons (.mt .starts (.var 0) (.cons (.gl "SEALED" (.str [115, 101, 97, 108, 101, 100, 32])) .nil)) .nil))))
  .nil))
def b_check_by : SL :=
  (.cons (.as (.nm 1) (.int 1))
  (.cons (.for (.nm 2) (.sq (.var 0)) (.cons (.as (.nm 1) (.bin .Mod (.bin .Add (.bin .Mult (.int 5) (.var 1)) (.bi .ord (.cons (.var 2) .nil))) (.gl "CHECKS" (.int 676)))) .nil))
  (.cons (.ret (.bin .Add (.ix (.gl "LETTERS" (.str [97, 98, 99, 100, 101, 102, 103, 104, 105, 106, 107, 108, 109, 110, 111, 112, 113, 114, 115, 116, 117, 118, 119, 120, 121, 122])) (.bin .FloorDiv (.var 1) (.int 26))) (.ix (.gl "LETTERS" (.str [97, 98, 99, 100, 101, 102, 103, 104, 105, 106, 107, 108, 109, 110, 111, 112, 113, 114, 115, 116, 117, 118, 119, 120, 121, 122])) (.bin .Mod (.var 1) (.int 26)))))
  .nil)))
def b_bead_by : SL :=
  (.cons (.ret (.bin .Add (.bin .Add (.bin .Add (.call 1 (.cons (.var 0) .nil)) (.str [58])) (.var 0)) (.str [10])))
  .nil)
def b_log_by : SL :=
  (.cons (.ret (.mt .join (.str []) (.cons (.comp [1] (.nm 1) (.sq (.var 0)) .no (.call 2 (.cons (.var 1) .nil))) .nil)))
  .nil)
def b_check_line : SL :=
  (.cons (.ite (.not (.call 0 (.cons (.var 0) .nil))) (.cons .stuck .nil) .nil)
  .nil)
def b_check_of : SL :=
  (.cons (.ex (.call 4 (.cons (.var 0) .nil)))
  (.cons (.ret (.call 1 (.cons (.var 0) .nil)))
  .nil))
def b_bead_of : SL :=
  (.cons (.ex (.call 4 (.cons (.var 0) .nil)))
  (.cons (.ret (.call 2 (.cons (.var 0) .nil)))
  .nil))
def b_log_of : SL :=
  (.cons (.ite (.not (.bi .isi (.cons (.var 0) (.cons (.ty "tuple") .nil)))) (.cons .stuck .nil) .nil)
  (.cons (.as (.nm 1) (.comp [2, 3] (.tp (.cons (.nm 2) (.cons (.nm 3) .nil))) (.en (.cons (.var 0) .nil)) (.so (.not (.call 0 (.cons (.var 3) .nil)))) (.var 2)))
  (.cons (.ite (.cmp .NotEq (.var 1) (.lst .nil)) (.cons .stuck .nil) .nil)
  (.cons (.ret (.call 3 (.cons (.var 0) .nil)))
  .nil))))
def b_law_drum : SL :=
  (.cons (.par 2 3 (.bin .Add (.int 907) (.bin .Mult (.int 61) (.var 1))) (.bin .Add (.int 30011) (.bin .Mult (.int 7) (.var 1))))
  (.cons (.for (.nm 4) (.sq (.sl (.bi .list (.cons (.var 0) .nil)) .no (.so (.int 60)))) (.cons (.as (.nm 5) (.bin .Mod (.bi .int (.cons (.var 4) .nil)) (.int 99991))) (.cons (.par 2 3 (.bin .Mod (.bin .Add (.bin .Mult (.var 2) (.int 53)) (.var 5)) (.int 60013)) (.bin .Mod (.bin .Add (.bin .Add (.bin .Mult (.var 3) (.int 59)) (.bin .Mult (.var 5) (.int 7))) (.var 2)) (.int 61001))) .nil)))
  (.cons (.ret (.lst (.cons (.bin .Add (.var 2) (.int 1)) (.cons (.bin .Add (.var 3) (.int 1)) .nil))))
  .nil)))
def b_law_beat : SL :=
  (.cons (.as (.tp (.cons (.sb (.var 0) (.int 0)) (.cons (.sb (.var 0) (.int 1)) .nil))) (.tup (.cons (.bin .Mod (.bin .Add (.bin .Mult (.ix (.var 0) (.int 0)) (.int 40014)) (.ix (.var 0) (.int 1))) (.int 2147483563)) (.cons (.bin .Mod (.bin .Add (.bin .Mult (.ix (.var 0) (.int 1)) (.int 40692)) (.int 11)) (.int 2147483399)) .nil))))
  (.cons (.ret (.bin .Mod (.bin .FloorDiv (.bin .Add (.ix (.var 0) (.int 0)) (.ix (.var 0) (.int 1))) (.int 19)) (.var 1)))
  .nil))
def b_law_one : SL :=
  (.cons (.ret (.ix (.var 1) (.call 9 (.cons (.var 0) (.cons (.bi .len (.cons (.var 1) .nil)) .nil)))))
  .nil)
def b_law_shuffled : SL :=
  (.cons (.par 2 3 (.bi .list (.cons (.var 1) .nil)) (.lst .nil))
  (.cons (.for (.nm 4) (.rg1 (.bi .len (.cons (.var 2) .nil))) (.cons (.ex (.mt .append (.var 3) (.cons (.mt .pop (.var 2) (.cons (.call 9 (.cons (.var 0) (.cons (.bi .len (.cons (.var 2) .nil)) .nil))) .nil)) .nil))) .nil))
  (.cons (.ret (.var 3))
  .nil)))
abbrev s_law_same_0 : St :=
  .ite (.bi .isi (.cons (.var 1) (.cons (.tup (.cons (.ty "tuple") (.cons (.ty "list") .nil))) .nil))) (.cons (.ite (.or (.cons (.cmp .NotEq (.bi .isi (.cons (.var 1) (.cons (.ty "tuple") .nil))) (.bi .isi (.cons (.var 0) (.cons (.ty "tuple") .nil)))) (.cons (.not (.bi .isi (.cons (.var 0) (.cons (.tup (.cons (.ty "tuple") (.cons (.ty "list") .nil))) .nil)))) (.cons (.cmp .NotEq (.bi .len (.cons (.var 0) .nil)) (.bi .len (.cons (.var 1) .nil))) .nil)))) (.cons (.ret (.bl false)) .nil) .nil) (.cons (.ret (.bi .all (.cons (.comp [2, 3] (.tp (.cons (.nm 2) (.cons (.nm 3) .nil))) (.zp (.var 0) (.var 1)) .no (.call 12 (.cons (.var 2) (.cons (.var 3) .nil)))) .nil))) .nil)) .nil
abbrev s_law_same_1 : St :=
  .ite (.cmp .Is (.var 1) .non) (.cons (.ret (.cmp .Is (.var 0) .non)) .nil) .nil
abbrev s_law_same_2 : St :=
  .ite (.or (.cons (.bi .isi (.cons (.var 1) (.cons (.ty "bool") .nil))) (.cons (.bi .isi (.cons (.var 0) (.cons (.ty "bool") .nil))) .nil))) (.cons (.ret (.and (.cons (.bi .isi (.cons (.var 1) (.cons (.ty "bool") .nil))) (.cons (.bi .isi (.cons (.var 0) (.cons (.ty "bool") .nil))) (.cons (.cmp .Eq (.var 0) (.var 1)) .nil))))) .nil) .nil
abbrev s_law_same_3 : St :=
  .ite (.bi .isi (.cons (.var 1) (.cons (.ty "int") .nil))) (.cons (.ret (.and (.cons (.bi .isi (.cons (.var 0) (.cons (.ty "int") .nil))) (.cons (.cmp .Eq (.var 0) (.var 1)) .nil)))) .nil) .nil
abbrev s_law_same_4 : St :=
  .ite (.bi .isi (.cons (.var 1) (.cons (.ty "dict") .nil))) (.cons (.ret (.and (.cons (.bi .isi (.cons (.var 0) (.cons (.ty "dict") .nil))) (.cons (.cmp .Eq (.var 0) (.var 1)) .nil)))) .nil) .nil
abbrev s_law_same_5 : St :=
  .ret (.and (.cons (.bi .isi (.cons (.var 1) (.cons (.ty "str") .nil))) (.cons (.bi .isi (.cons (.var 0) (.cons (.ty "str") .nil))) (.cons (.cmp .Eq (.var 0) (.var 1)) .nil))))
def b_law_same : SL :=
  (.cons s_law_same_0
  (.cons s_law_same_1
  (.cons s_law_same_2
  (.cons s_law_same_3
  (.cons s_law_same_4
  (.cons s_law_same_5
  .nil))))))
def b_law_check : SL :=
  (.cons (.as (.nm 1) (.int 1))
  (.cons (.for (.nm 2) (.sq (.var 0)) (.cons (.as (.nm 1) (.bin .Mod (.bin .Add (.bin .Mult (.int 5) (.var 1)) (.bi .ord (.cons (.var 2) .nil))) (.int 676))) .nil))
  (.cons (.ret (.bin .Add (.ix (.str [97, 98, 99, 100, 101, 102, 103, 104, 105, 106, 107, 108, 109, 110, 111, 112, 113, 114, 115, 116, 117, 118, 119, 120, 121, 122]) (.bin .FloorDiv (.var 1) (.int 26))) (.ix (.str [97, 98, 99, 100, 101, 102, 103, 104, 105, 106, 107, 108, 109, 110, 111, 112, 113, 114, 115, 116, 117, 118, 119, 120, 121, 122]) (.bin .Mod (.var 1) (.int 26)))))
  .nil)))
def b_law_bead : SL :=
  (.cons (.ret (.bin .Add (.bin .Add (.bin .Add (.call 13 (.cons (.var 0) .nil)) (.str [58])) (.var 0)) (.str [10])))
  .nil)
def b_law_line : SL :=
  (.cons (.as (.nm 2) (.str [32, 33, 35, 36, 38, 40, 41, 42, 43, 44, 45, 46, 47, 48, 49, 50, 51, 52, 53, 54, 55, 56, 57, 58, 59, 60, 61, 62, 63, 64, 65, 66, 67, 68, 69, 70, 71, 72, 73, 74, 75, 76, 77, 78, 79, 80, 81, 82, 83, 84, 85, 86, 87, 88, 89, 90, 91, 93, 94, 95, 96, 97, 98, 99, 100, 101, 102, 103, 104, 105, 106, 107, 108, 109, 110, 111, 112, 113, 114, 115, 116, 117, 118, 119, 120, 121, 122, 123, 124, 125, 126, 39, 34, 92]))
  (.cons (.ret (.mt .join (.str []) (.cons (.comp [3] (.nm 3) (.rg1 (.call 9 (.cons (.var 0) (.cons (.bin .Add (.var 1) (.int 1)) .nil)))) .no (.call 10 (.cons (.var 0) (.cons (.var 2) .nil)))) .nil)))
  .nil))
def b_law_line_right : SL :=
  (.cons (.as (.nm 1) (.lst (.cons (.call 13 (.cons (.var 0) .nil)) (.cons (.call 13 (.cons (.var 0) .nil)) (.cons (.call 14 (.cons (.var 0) .nil)) (.cons (.call 14 (.cons (.var 0) .nil)) .nil))))))
  (.cons (.ret (.call 12 (.cons (.lst (.cons (.call 5 (.cons (.var 0) .nil)) (.cons (.callk 5 .nil (.cons (.var 0) .nil)) (.cons (.call 6 (.cons (.var 0) .nil)) (.cons (.callk 6 .nil (.cons (.var 0) .nil)) .nil))))) (.cons (.var 1) .nil))))
  .nil))
abbrev s_law_hand_right_0 : St :=
  .as (.nm 1) (.bin .Add (.comp [2] (.nm 2) (.sq (.tup (.cons (.int 0) (.cons (.int 1) (.cons (.int 2) (.cons (.int 3) (.cons (.int 8) (.cons (.int 20) (.cons (.int 60) (.cons (.int 120) (.cons (.int 200) .nil))))))))))) .no (.call 15 (.cons (.var 0) (.cons (.var 2) .nil)))) (.lst (.cons (.str []) (.cons (.str [32]) (.cons (.str [126]) (.cons (.bin .Mult (.str [97]) (.int 200)) (.cons (.bin .Mult (.str [126]) (.int 200)) (.cons (.bin .Mult (.str [32]) (.int 200)) (.cons (.str [115, 101, 97, 108, 101, 100, 32]) (.cons (.str [115, 101, 97, 108, 101, 100]) (.cons (.str [98, 97, 99, 107]) .nil)))))))))))
abbrev s_law_hand_right_1 : St :=
  .as (.nm 1) (.bin .Add (.var 1) (.lst (.cons (.bin .Add (.str [115, 101, 97, 108, 101, 100, 32]) (.call 15 (.cons (.var 0) (.cons (.int 300) .nil)))) (.cons (.bin .Add (.str [115, 101, 97, 108, 101, 100, 32]) (.bin .Mult (.str [48, 32, 45, 32, 47, 32, 35]) (.bin .Add (.int 50) (.call 9 (.cons (.var 0) (.cons (.int 300) .nil)))))) (.cons (.bin .Add (.str [115, 101, 97, 108, 101, 100]) (.call 15 (.cons (.var 0) (.cons (.int 190) .nil)))) .nil)))))
abbrev s_law_hand_right_2 : St :=
  .as (.nm 1) (.bin .Add (.bin .Add (.var 1) (.bi .list (.cons (.str [32, 33, 35, 36, 38, 40, 41, 42, 43, 44, 45, 46, 47, 48, 49, 50, 51, 52, 53, 54, 55, 56, 57, 58, 59, 60, 61, 62, 63, 64, 65, 77, 90, 91, 93, 94, 95, 97, 122, 123, 124, 125, 126]) .nil))) (.comp [3] (.nm 3) (.sq (.str [58, 59, 47, 45, 46, 42, 35, 61, 62])) .no (.bin .Add (.call 15 (.cons (.var 0) (.cons (.int 12) .nil))) (.var 3))))
abbrev s_law_hand_right_3 : St :=
  .ite (.not (.bi .all (.cons (.comp [4] (.nm 4) (.sq (.var 1)) .no (.call 16 (.cons (.var 4) .nil))) .nil))) (.cons (.ret (.bl false)) .nil) .nil
abbrev s_law_hand_right_4 : St :=
  .as (.nm 4) (.bin .Add (.call 15 (.cons (.var 0) (.cons (.int 150) .nil))) (.str [120, 121]))
abbrev s_law_hand_right_5 : St :=
  .as (.nm 5) (.call 9 (.cons (.var 0) (.cons (.bin .Sub (.bi .len (.cons (.var 4) .nil)) (.int 1)) .nil)))
abbrev s_law_hand_right_6 : St :=
  .for (.nm 6) (.sq (.tup (.cons (.bin .Add (.bin .Add (.sl (.var 4) .no (.so (.var 5))) (.call 10 (.cons (.var 0) (.cons (.str [97, 98, 58]) .nil)))) (.sl (.var 4) (.so (.bin .Add (.var 5) (.int 1))) .no)) (.cons (.bin .Add (.bin .Add (.bin .Add (.sl (.var 4) .no (.so (.var 5))) (.ix (.var 4) (.bin .Add (.var 5) (.int 1)))) (.ix (.var 4) (.var 5))) (.sl (.var 4) (.so (.bin .Add (.var 5) (.int 2))) .no)) (.cons (.sl (.var 4) .no (.so (.neg (.int 1)))) (.cons (.bin .Add (.var 4) (.str [32])) .nil)))))) (.cons (.ite (.or (.cons (.cmp .NotEq (.cmp .Eq (.call 5 (.cons (.var 6) .nil)) (.call 5 (.cons (.var 4) .nil))) (.cmp .Eq (.call 13 (.cons (.var 6) .nil)) (.call 13 (.cons (.var 4) .nil)))) (.cons (.not (.call 16 (.cons (.var 6) .nil))) .nil))) (.cons (.ret (.bl false)) .nil) .nil) .nil)
abbrev s_law_hand_right_7 : St :=
  .as (.nm 7) (.sl (.call 11 (.cons (.var 0) (.cons (.var 1) .nil))) .no (.so (.bin .Add (.int 1) (.call 9 (.cons (.var 0) (.cons (.int 20) .nil))))))
abbrev s_law_hand_right_8 : St :=
  .as (.nm 8) (.mt .join (.str []) (.cons (.comp [9] (.nm 9) (.sq (.var 7)) .no (.call 14 (.cons (.var 9) .nil))) .nil))
abbrev s_law_hand_right_9 : St :=
  .ret (.call 12 (.cons (.lst (.cons (.call 7 (.cons (.bi .tuple (.cons (.var 7) .nil)) .nil)) (.cons (.callk 7 .nil (.cons (.bi .tuple (.cons (.var 7) .nil)) .nil)) (.cons (.call 7 (.cons (.tup .nil) .nil)) (.cons (.call 7 (.cons (.tup (.cons (.var 4) (.cons (.var 4) .nil))) .nil)) .nil))))) (.cons (.lst (.cons (.var 8) (.cons (.var 8) (.cons (.str []) (.cons (.bin .Mult (.call 14 (.cons (.var 4) .nil)) (.int 2)) .nil))))) .nil)))
def b_law_hand_right : SL :=
  (.cons s_law_hand_right_0
  (.cons s_law_hand_right_1
  (.cons s_law_hand_right_2
  (.cons s_law_hand_right_3
  (.cons s_law_hand_right_4
  (.cons s_law_hand_right_5
  (.cons s_law_hand_right_6
  (.cons s_law_hand_right_7
  (.cons s_law_hand_right_8
  (.cons s_law_hand_right_9
  .nil))))))))))
def b_law : SL :=
  (.cons (.as (.nm 1) (.lst (.cons (.call 5 (.cons (.str [98, 97, 99, 107]) .nil)) (.cons (.call 6 (.cons (.str [98, 97, 99, 107]) .nil)) (.cons (.call 6 (.cons (.str []) .nil)) (.cons (.call 7 (.cons (.tup (.cons (.str [98, 97, 99, 107]) (.cons (.str []) .nil))) .nil)) (.cons (.call 5 (.cons (.str []) .nil)) .nil)))))))
  (.cons (.ret (.and (.cons (.call 12 (.cons (.var 1) (.cons (.lst (.cons (.str [110, 113]) (.cons (.str [110, 113, 58, 98, 97, 99, 107, 10]) (.cons (.str [97, 98, 58, 10]) (.cons (.str [110, 113, 58, 98, 97, 99, 107, 10, 97, 98, 58, 10]) (.cons (.str [97, 98]) .nil)))))) .nil))) (.cons (.bi .all (.cons (.comp [2] (.nm 2) (.sq (.tup (.cons (.int 0) (.cons (.int 1) .nil)))) .no (.call 17 (.cons (.call 8 (.cons (.var 0) (.cons (.var 2) .nil))) .nil))) .nil)) .nil))))
  .nil))
def T : List Fn := [
  ⟨"is_line_of", ["value"], ["value", "sign"], b_is_line_of⟩,
  ⟨"check_by", ["line"], ["line", "found", "sign"], b_check_by⟩,
  ⟨"bead_by", ["line"], ["line"], b_bead_by⟩,
  ⟨"log_by", ["lines"], ["lines", "line"], b_log_by⟩,
  ⟨"check_line", ["line"], ["line"], b_check_line⟩,
  ⟨"check_of", ["line"], ["line"], b_check_of⟩,
  ⟨"bead_of", ["line"], ["line"], b_bead_of⟩,
  ⟨"log_of", ["lines"], ["lines", "wrong", "index", "line"], b_log_of⟩,
  ⟨"_law_drum", ["script", "hand"], ["script", "hand", "low", "high", "cell", "small"], b_law_drum⟩,
  ⟨"_law_beat", ["drum", "many"], ["drum", "many"], b_law_beat⟩,
  ⟨"_law_one", ["drum", "things"], ["drum", "things"], b_law_one⟩,
  ⟨"_law_shuffled", ["drum", "things"], ["drum", "things", "left", "found", "turn"], b_law_shuffled⟩,
  ⟨"_law_same", ["told", "due"], ["told", "due", "one", "other"], b_law_same⟩,
  ⟨"_law_check", ["line"], ["line", "found", "sign"], b_law_check⟩,
  ⟨"_law_bead", ["line"], ["line"], b_law_bead⟩,
  ⟨"_law_line", ["drum", "most"], ["drum", "most", "signs", "turn"], b_law_line⟩,
  ⟨"_law_line_right", ["line"], ["line", "due"], b_law_line_right⟩,
  ⟨"_law_hand_right", ["drum"], ["drum", "lines", "most", "sign", "line", "spot", "other", "some", "due", "own"], b_law_hand_right⟩,
  ⟨"law", ["script"], ["script", "told", "hand"], b_law⟩]
def ix : List Nat := [9, 10, 11, 12, 14, 15, 16, 17, 19, 20, 21, 22, 23, 24, 25, 26, 27, 28, 29]
def fr : List Str := ["all", "any", "bool", "dict", "enumerate", "int", "isinstance", "len", "list", "ord", "range", "str", "tuple", "zip"]
def gls : List (Str × G) := [("MOST_SIGNS", .int 200), ("SEALED", .str [115, 101, 97, 108, 101, 100, 32]), ("CHECKS", .int 676), ("LETTERS", .str [97, 98, 99, 100, 101, 102, 103, 104, 105, 106, 107, 108, 109, 110, 111, 112, 113, 114, 115, 116, 117, 118, 119, 120, 121, 122])]
end K17

set_option linter.all false
set_option maxRecDepth 100000
set_option maxHeartbeats 4000000
namespace K17
open PySem
open PyProof.Rows
open L2
open Bq
def LET : List Nat := [97, 98, 99, 100, 101, 102, 103, 104, 105, 106, 107, 108, 109, 110, 111, 112, 113, 114, 115, 116, 117, 118, 119, 120, 121, 122]
def ck (a : List Nat) : Nat := a.foldl (fun f c => (5 * f + c) % 676) 1
theorem ck_snoc (a : List Nat) (c : Nat) : ck (a ++ [c]) = (5 * ck a + c) % 676 := by simp [ck, List.foldl_append]
theorem ck_lt : ∀ a : List Nat, ck a < 676 := fun a => by
  rcases List.eq_nil_or_concat a with h | ⟨b, c, h⟩
  · subst h; decide
  · rw [h, List.concat_eq_append, ck_snoc]; exact Nat.mod_lt _ (by decide)
def ckS (a : List Nat) : List Nat := [LET.getD (ck a / 26) 0, LET.getD (ck a % 26) 0]
theorem let_at {n : Nat} (h : n < 26) : atI LET (n : Int) = some (LET.getD n 0) := by
  rw [Bq.atI_nat (by simpa [LET] using h)]
  rw [List.getD_eq_getElem?_getD, List.getElem?_eq_getElem (by simpa [LET] using h)]
  rfl
def beadS (a : List Nat) : List Nat := ckS a ++ [58] ++ a ++ [10]
theorem check_gen {T : List Fn} {i k : Nat} {F : Fn} {S : Sto} {a : List Nat} (hT : T[i]? = some F) (hk : 0 < k) (hF : F.ps.length = 1) (hN : F.N.length = 3) (hl : a.length ≤ LIM)
    (hb : F.b = b_check_by ∨ F.b = b_law_check) : wp (callF T k i [.str a] S) fun u S' => u = .str (ckS a) ∧ S' = S := by
  refine callF_step hT hk (by rw [hF]; rfl) ?_
  rw [hN]
  have c1 := let_at (n := ck a / 26) (by have := ck_lt a; omega)
  have c2 := let_at (n := ck a % 26) (by omega)
  have e1 : ((ck a / 26 : Nat) : Int) = (ck a : Int) / 26 := by simp
  have e2 : ((ck a % 26 : Nat) : Int) = (ck a : Int) % 26 := by simp
  rw [e1] at c1
  rw [e2] at c2
  have d1 := fun S : Sto => ixF_str (S := S) (by decide) c1
  have d2 := fun S : Sto => ixF_str (S := S) (by decide) c2
  unfold LET at d1 d2
  have fin : wpS (evSs (callF T (k - 1)) b_law_check (List.map some [U.str a] ++ List.replicate (3 - [U.str a].length) none) S) (fun _ S_1 => U.non = U.str (ckS a) ∧ S_1 = S) (fun _ _ => False) (fun _ _ => False) fun u S' => u = U.str (ckS a) ∧ S' = S := by
    simp only [b_law_check, wpS_cons]
    simp
    refine wpS_forE (j := .vals (a.map fun c => .str [c])) (S1 := S) (by simp) (a.map fun c => .str [c]) (fun i e S' => ∃ c, e = [some (.str a), some (.int (ck (a.take i))), c] ∧ S' = S) rfl ⟨none, rfl, rfl⟩ (fun _ _ _ _ => rfl) ?_ ?_
    · rintro e S' ⟨c, rfl, rfl⟩
      simp only [List.length_map, List.take_length]
      simp [Sm, d1, d2, LIM]
      rfl
    · rintro i e S' x ⟨c, rfl, rfl⟩ hx
      rw [List.getElem?_map] at hx
      cases q : a[i]? with
      | none => rw [q] at hx; cases hx
      | some y =>
        rw [q] at hx; cases hx
        simp [Sm, BIG]
        rw [take_snoc q, ck_snoc]
        simp
  rcases hb with hb | hb
  · rw [hb]; exact fin
  · rw [hb]; exact fin
def okS (a : List Nat) : Bool := a.all fun c => decide (32 ≤ c) && decide (c ≤ 126)
def SEAL : List Nat := [115, 101, 97, 108, 101, 100, 32]
def lineB (a : List Nat) : Bool := okS a && (decide (a.length ≤ 200) || (a.take 7 == SEAL))
theorem not_any {α : Type} (p : α → Bool) : ∀ xs : List α, xs.any (fun c => !p c) = !xs.all p := by
  intro xs; induction xs with
  | nil => rfl
  | cons x xs ih => simp [ih]
theorem isline_ok {T : List Fn} {i k : Nat} {S : Sto} {a : List Nat} (hT : T[i]? = some ⟨"is_line_of", ["value"], ["value", "sign"], b_is_line_of⟩) (hk : 0 < k) (hl : a.length ≤ LIM) : wp (callF T k i [.str a] S) fun u S' => u = .bl (lineB a) ∧ Keep [] S S' := by
  refine callF_step hT hk rfl ?_
  have k6 : knownT "str" = true := by decide
  simp only [b_is_line_of, wpS_cons]
  simp [LIM, k6, show subT "str" "str" = true by decide]
  refine wp_compA (j := .vals (a.map fun c => .str [c])) (S1 := S) (by simp) a (fun c => .str [c]) (fun c => .bl (!(decide (32 ≤ c) && decide (c ≤ 126)))) (fun S' => S' = S) (by simp) hl rfl (fun _ _ _ => rfl) ?_ ?_
  · rintro S2 rfl
    rw [anyF_map (seqAt_at get_new)]
    simp only [wpO_some, not_any, wp_asB]
    have e : (a.all fun c => decide (32 ≤ c) && decide (c ≤ 126)) = okS a := rfl
    rw [e]
    cases q : okS a with
    | false => simp [lineB, q, Keep.app]
    | true =>
      simp
      refine ⟨hl, ?_⟩
      by_cases h2 : a.length ≤ 200
      · have h3 : (a.length : Int) ≤ 200 := by omega
        simp [lineB, q, h2, h3, Keep.app]
      · have h3 : ¬ (a.length : Int) ≤ 200 := by omega
        simp [h2, h3, startsF, starts_eq, lineB, q, Keep.app, SEAL]
  · intro S2 c hS hx
    subst hS
    simp [wipeU]
    by_cases h1 : 32 ≤ c
    · have : ¬ c < 32 := by omega
      by_cases h2 : c ≤ 126
      · have : ¬ 126 < c := by omega
        simp [*]
      · have : 126 < c := by omega
        simp [*]
    · have : c < 32 := by omega
      simp [*]
theorem t0 : T[0]? = some ⟨"is_line_of", ["value"], ["value", "sign"], b_is_line_of⟩ := rfl
theorem check1 {k : Nat} {S : Sto} {a : List Nat} (hk : 0 < k) (hl : a.length ≤ LIM) : wp (callF T k 1 [.str a] S) fun u S' => u = .str (ckS a) ∧ S' = S := check_gen (F := ⟨"check_by", ["line"], ["line", "found", "sign"], b_check_by⟩) rfl hk rfl rfl hl (.inl rfl)
theorem check13 {k : Nat} {S : Sto} {a : List Nat} (hk : 0 < k) (hl : a.length ≤ LIM) : wp (callF T k 13 [.str a] S) fun u S' => u = .str (ckS a) ∧ S' = S := check_gen (F := ⟨"_law_check", ["line"], ["line", "found", "sign"], b_law_check⟩) rfl hk rfl rfl hl (.inr rfl)
theorem bead2 {k : Nat} {S : Sto} {a : List Nat} (hk : 1 < k) (hl : a.length ≤ 1000000) : wp (callF T k 2 [.str a] S) fun u S' => u = .str (beadS a) ∧ S' = S := by
  refine callF_step (F := ⟨"bead_by", ["line"], ["line"], b_bead_by⟩) rfl (by omega) rfl ?_
  simp only [b_bead_by, wpS_cons]
  simp
  refine wp_mono (check1 (by omega) (by unfold LIM; omega)) fun u S' ⟨e, e2⟩ => ?_
  subst e e2
  simp [ckS, LIM, beadS]
  omega
theorem bead14 {k : Nat} {S : Sto} {a : List Nat} (hk : 1 < k) (hl : a.length ≤ 1000000) : wp (callF T k 14 [.str a] S) fun u S' => u = .str (beadS a) ∧ S' = S := by
  refine callF_step (F := ⟨"_law_bead", ["line"], ["line"], b_law_bead⟩) rfl (by omega) rfl ?_
  simp only [b_law_bead, wpS_cons]
  simp
  refine wp_mono (check13 (by omega) (by unfold LIM; omega)) fun u S' ⟨e, e2⟩ => ?_
  subst e e2
  simp [ckS, LIM, beadS]
  omega
theorem cline {k : Nat} {S : Sto} {a : List Nat} (hk : 1 < k) (hl : a.length ≤ 1000000) (h : lineB a = true) : wp (callF T k 4 [.str a] S) fun u S' => Keep [] S S' := by
  refine callF_step (F := ⟨"check_line", ["line"], ["line"], b_check_line⟩) rfl (by omega) rfl ?_
  simp only [b_check_line, wpS_cons]
  simp
  refine wp_mono (isline_ok t0 (by omega) (by unfold LIM; omega)) fun u S' ⟨e, e2⟩ => ?_
  subst e
  simp [h, e2]
theorem checkof {k : Nat} {S : Sto} {a : List Nat} (hk : 2 < k) (hl : a.length ≤ 1000000) (h : lineB a = true) : wp (callF T k 5 [.str a] S) fun u S' => u = .str (ckS a) ∧ Keep [] S S' := by
  refine callF_step (F := ⟨"check_of", ["line"], ["line"], b_check_of⟩) rfl (by omega) rfl ?_
  simp only [b_check_of, wpS_cons]
  simp
  refine wp_mono (cline (by omega) hl h) fun u S' e2 => ?_
  refine wp_mono (check1 (by omega) (by unfold LIM; omega)) fun u S' ⟨e, e3⟩ => ?_
  subst e3
  exact ⟨e, e2⟩
theorem beadof {k : Nat} {S : Sto} {a : List Nat} (hk : 2 < k) (hl : a.length ≤ 1000000) (h : lineB a = true) : wp (callF T k 6 [.str a] S) fun u S' => u = .str (beadS a) ∧ Keep [] S S' := by
  refine callF_step (F := ⟨"bead_of", ["line"], ["line"], b_bead_of⟩) rfl (by omega) rfl ?_
  simp only [b_bead_of, wpS_cons]
  simp
  refine wp_mono (cline (by omega) hl h) fun u S' e2 => ?_
  refine wp_mono (bead2 (by omega) hl) fun u S' ⟨e, e3⟩ => ?_
  subst e3
  exact ⟨e, e2⟩
/-- lines: few and short enough -/
def Lines (ls : List (List Nat)) : Prop := ls.length ≤ 1000 ∧ ∀ a ∈ ls, lineB a = true ∧ a.length ≤ 3000
def logS (ls : List (List Nat)) : List Nat := (ls.map beadS).flatten
theorem bead_len (a : List Nat) : (beadS a).length = a.length + 4 := by simp [beadS, ckS]
theorem log_len : ∀ ls : List (List Nat), (∀ a ∈ ls, a.length ≤ 3000) → ((ls.map beadS).map List.length).sum ≤ ls.length * 3004
  | [], _ => by simp
  | a :: ls, h => by
    have ih := log_len ls fun b hb => h b (List.mem_cons_of_mem _ hb)
    have := h a (by simp)
    simp only [List.map_cons, List.sum_cons, List.length_cons, bead_len]
    omega
theorem logby {k : Nat} {S : Sto} {ls : List (List Nat)} (hk : 2 < k) (hl : Lines ls) : wp (callF T k 3 [.tup (ls.map .str)] S) fun u S' => u = .str (logS ls) ∧ Keep [] S S' := by
  refine callF_step (F := ⟨"log_by", ["lines"], ["lines", "line"], b_log_by⟩) rfl (by omega) rfl ?_
  simp only [b_log_by, wpS_cons]
  simp
  refine wp_compA (j := .vals (ls.map .str)) (S1 := S) (by simp) ls .str (fun a => .str (beadS a)) (fun S' => S' = S) (by simp) (by unfold LIM; have := hl.1; omega) rfl (fun _ _ _ => rfl) ?_ ?_
  · rintro S2 rfl
    rw [joinF_map (seqAt_at get_new)]
    refine ⟨?_, rfl, Keep.app⟩
    have := log_len ls fun a ha => (hl.2 a ha).2
    have := hl.1
    unfold LIM; omega
  · rintro S2 a rfl ha
    simp [wipeU]
    exact wp_mono (bead2 (by omega) (by have := (hl.2 a ha).2; omega)) fun u S' ⟨e, e2⟩ => ⟨e2, e⟩
theorem logof {k : Nat} {S : Sto} {ls : List (List Nat)} (hk : 3 < k) (hl : Lines ls) : wp (callF T k 7 [.tup (ls.map .str)] S) fun u S' => u = .str (logS ls) ∧ Keep [] S S' := by
  refine callF_step (F := ⟨"log_of", ["lines"], ["lines", "wrong", "index", "line"], b_log_of⟩) rfl (by omega) rfl ?_
  simp only [b_log_of, wpS_cons]
  simp [show knownT "tuple" = true by decide, show subT "tuple" "tuple" = true by decide]
  refine wp_compF (j := .en 0 (.vals (ls.map .str))) (S1 := S) (by simp) (enumU 0 (ls.map .str)) (fun S' => Keep [] S S') (fun _ => false) id (by simp) (by simp; unfold LIM; have := hl.1; omega) .refl (fun S' i _ => J_at_en rfl) ?_ ?_
  · intro S2 hk2
    have e0 : (enumU 0 (ls.map .str)).filter (fun _ => false) = [] := by simp
    rw [e0]
    simp [LIM]
    rw [eqB_nil (seqAt_at (us := []) (by rw [List.getElem?_append_right (by omega)]; simp)) (seqAt_at (us := []) (by rw [List.getElem?_append_right (by omega)]; simp))]
    simp
    exact wp_mono (logby (by omega) hl) fun u S' ⟨e, h⟩ => ⟨e, (hk2.trans Keep.app).trans h⟩
  · intro S2 x hk2 hx
    obtain ⟨i, u, e, rfl⟩ := enumU_mem hx
    rw [List.getElem?_map] at e
    cases q : ls[i]? with
    | none => rw [q] at e; cases e
    | some a =>
      rw [q] at e; cases e
      have ha := hl.2 a (List.mem_of_getElem? q)
      simp [wipeU, TL.len]
      refine wp_mono (isline_ok t0 (by omega) (by have := ha.2; unfold LIM; omega)) fun u S' ⟨e, h⟩ => ?_
      subst e
      simp [ha.1]
      exact hk2.trans h
def SIGNS : List Nat := [32, 33, 35, 36, 38, 40, 41, 42, 43, 44, 45, 46, 47, 48, 49, 50, 51, 52, 53, 54, 55, 56, 57, 58, 59, 60, 61, 62, 63, 64, 65, 66, 67, 68, 69, 70, 71, 72, 73, 74, 75, 76, 77, 78, 79, 80, 81, 82, 83, 84, 85, 86, 87, 88, 89, 90, 91, 93, 94, 95, 96, 97, 98, 99, 100, 101, 102, 103, 104, 105, 106, 107, 108, 109, 110, 111, 112, 113, 114, 115, 116, 117, 118, 119, 120, 121, 122, 123, 124, 125, 126, 39, 34, 92]
theorem okS_iff {a : List Nat} : okS a = true ↔ ∀ c ∈ a, 32 ≤ c ∧ c ≤ 126 := by simp [okS]
theorem okS_app {a b : List Nat} : okS (a ++ b) = (okS a && okS b) := by simp [okS]
theorem tB : T[9]? = some fnBeat := rfl
theorem tO : T[10]? = some (fnOne 9) := rfl
theorem tSh : T[11]? = some (fnShuf 9) := rfl
theorem tSa : T[12]? = some (fnSame 12) := rfl
theorem tD : T[8]? = some fnDrum := rfl
theorem line15 {k d m : Nat} {S : Sto} (hk : 2 < k) (hd : DrumAt S d) (hm : m ≤ 1000) : wp (callF T k 15 [.loc d, .int (m : Int)] S) fun u S' => ∃ a, u = .str a ∧ okS a = true ∧ a.length ≤ m ∧ Keep [d] S S' ∧ DrumAt S' d := by
  refine callF_step (F := ⟨"_law_line", ["drum", "most"], ["drum", "most", "signs", "turn"], b_law_line⟩) rfl (by omega) rfl ?_
  simp only [b_law_line, wpS_cons]
  simp
  obtain ⟨u1, S1, e1, r, rfl, r0, r1, k1, d1, l1⟩ := wp_out (beat_ok (k := k - 1) (many := (m : Int) + 1) tB (by omega) hd (by omega))
  obtain ⟨n, rfl⟩ := Int.eq_ofNat_of_zero_le r0
  refine wp_compM (j := .vals (rngL 0 n)) (S1 := S1) (by simp [e1, rg1_nat (show n ≤ 1000000000 by omega)]) (rngL 0 n) (fun S' => Keep [d] S S' ∧ DrumAt S' d) (fun _ y => ∃ c, y = .str [c] ∧ 32 ≤ c ∧ c ≤ 126) (by simp) (by simp; unfold LIM; omega) ⟨k1, d1⟩ (fun _ _ _ => rfl) ?_ ?_
  · intro us S2 ⟨k2, d2⟩ h2
    have hm := h2.mem
    obtain ⟨cs, rfl, p⟩ := choose_map (f := fun c => U.str [c]) (P := fun c => 32 ≤ c ∧ c ≤ 126) fun u hu => by obtain ⟨_, _, h⟩ := hm u hu; exact h
    rw [joinF_map (seqAt_at get_new)]
    rw [sum_ones, flat_ones]
    have hl := h2.length
    simp at hl
    exact ⟨by unfold LIM; omega, cs, rfl, okS_iff.mpr p, by omega, k2.trans Keep.app, d2.keep (ds := []) Keep.app (by simp)⟩
  · intro S2 x ⟨k2, d2⟩ hx
    simp [wipeU]
    refine wp_mono (one_str (ib := 9) (a := SIGNS) tO tB (by omega) d2 (by decide) (by decide)) fun u S' ⟨c, e, hc, h1, h2, h3⟩ => ?_
    have : ∀ c ∈ SIGNS, 32 ≤ c ∧ c ≤ 126 := by decide
    exact ⟨⟨k2.trans h1, h2⟩, c, e, this c hc⟩
theorem same_strs {S : Sto} {l m : Nat} {as : List (List Nat)} (h1 : seqAt S l = some (as.map .str)) (h2 : seqAt S m = some (as.map .str)) (hl : as.length ≤ LIM) : Same S 1 (.loc l) (.loc m) := by
  refine ⟨_, _, h1, h2, rfl, by simpa using hl, fun i x y e e' => ?_⟩
  rw [e] at e'; cases e'
  rw [List.getElem?_map] at e
  cases q : as[i]? with
  | none => rw [q] at e; cases e
  | some a => rw [q] at e; cases e; exact rfl
theorem right16 {k : Nat} {S : Sto} {a : List Nat} (hk : 3 < k) (hl : a.length ≤ 3000) (h : lineB a = true) : wp (callF T k 16 [.str a] S) fun u S' => u = .bl true ∧ Keep [] S S' := by
  refine callF_step (F := ⟨"_law_line_right", ["line"], ["line", "due"], b_law_line_right⟩) rfl (by omega) rfl ?_
  simp only [b_law_line_right, wpS_cons]
  simp
  have hL : a.length ≤ LIM := by unfold LIM; omega
  have hM : a.length ≤ 1000000 := by omega
  refine wp_mono (check13 (by omega) hL) fun u S' ⟨e, e3⟩ => ?_
  subst e e3
  refine wp_mono (check13 (by omega) hL) fun u S' ⟨e, e3⟩ => ?_
  subst e e3
  refine wp_mono (bead14 (by omega) hM) fun u S' ⟨e, e3⟩ => ?_
  subst e e3
  refine wp_mono (bead14 (by omega) hM) fun u S' ⟨e, e3⟩ => ?_
  subst e e3
  refine ⟨by decide, ?_⟩
  have h0 : (S' ++ [Ob.lst [U.str (ckS a), U.str (ckS a), U.str (beadS a), U.str (beadS a)]])[S'.length]? = some (.lst ([ckS a, ckS a, beadS a, beadS a].map .str)) := get_new
  revert h0
  have k0 : Keep [] S' (S' ++ [Ob.lst [U.str (ckS a), U.str (ckS a), U.str (beadS a), U.str (beadS a)]]) := Keep.app
  revert k0
  generalize (S' ++ [Ob.lst [U.str (ckS a), U.str (ckS a), U.str (beadS a), U.str (beadS a)]]) = S0
  intro k0 h0
  refine wp_mono (checkof (by omega) hM h) fun u S1 ⟨e, k1⟩ => ?_
  subst e
  refine wp_mono (checkof (by omega) hM h) fun u S2 ⟨e, k2⟩ => ?_
  subst e
  refine wp_mono (beadof (by omega) hM h) fun u S3 ⟨e, k3⟩ => ?_
  subst e
  refine wp_mono (beadof (by omega) hM h) fun u S4 ⟨e, k4⟩ => ?_
  subst e
  refine ⟨by decide, ?_⟩
  have kk : Keep [] S0 (S4 ++ [Ob.lst [U.str (ckS a), U.str (ckS a), U.str (beadS a), U.str (beadS a)]]) := (((k1.trans k2).trans k3).trans k4).trans Keep.app
  refine wp_mono (same_ok tSa 1 (k - 1) _ _ _ (by omega) (same_strs (as := [ckS a, ckS a, beadS a, beadS a]) (seqAt_at get_new) (kk.seq (by simp) (seqAt_at h0)) (by simp [LIM]))) fun u S5 ⟨e, k5⟩ => ?_
  exact ⟨e, (k0.trans kk).trans k5⟩
def Good (a : List Nat) : Prop := lineB a = true ∧ a.length ≤ 3000
theorem good_short {a : List Nat} (h : okS a = true) (hl : a.length ≤ 200) : Good a := ⟨by simp [lineB, h, hl], by omega⟩
theorem good_seal {a : List Nat} (h : okS a = true) (hl : a.length ≤ 2900) : Good (SEAL ++ a) := by
  refine ⟨?_, by simp [SEAL]; omega⟩
  unfold lineB
  rw [okS_app, h, show okS SEAL = true by decide]
  have : (SEAL ++ a).take 7 = SEAL := by simp [SEAL]
  rw [this]
  simp
theorem okS_rep {s : List Nat} (h : okS s = true) (n : Nat) : okS (rep n s) = true := by
  unfold rep
  rw [okS_iff] at h ⊢
  intro c hc
  obtain ⟨l, hl, hc⟩ := List.mem_flatten.mp hc
  rw [List.eq_of_mem_replicate hl] at hc
  exact h c hc
theorem okS_take {a : List Nat} {n : Nat} (h : okS a = true) : okS (a.take n) = true := by
  rw [okS_iff] at h ⊢
  exact fun c hc => h c (List.mem_of_mem_take hc)
theorem okS_drop {a : List Nat} {n : Nat} (h : okS a = true) : okS (a.drop n) = true := by
  rw [okS_iff] at h ⊢
  exact fun c hc => h c (List.mem_of_mem_drop hc)
/-- a list of good lines at n -/
structure LS (S : Sto) (n m : Nat) (ls : List (List Nat)) : Prop where
  at_ : S[n]? = some (.lst (ls.map .str))
  len : ls.length ≤ m
  good : ∀ a ∈ ls, Good a
abbrev EV (d : Nat) (a b c e f : Option U) : Evn := [some (.loc d), a, none, none, b, c, none, e, f, none]
theorem good_line {a : List Nat} {m : Nat} (h : okS a = true) (hl : a.length ≤ m) (hm : m ≤ 200) : Good a := good_short h (by omega)
def CL : List (List Nat) := [[], [32], [126], rep 200 [97], rep 200 [126], rep 200 [32], [115, 101, 97, 108, 101, 100, 32], [115, 101, 97, 108, 101, 100], [98, 97, 99, 107]]
theorem CL_good : ∀ a ∈ CL, Good a := by
  have : ∀ a ∈ CL, okS a = true ∧ a.length ≤ 200 := by decide +kernel
  exact fun a ha => good_short (this a ha).1 (this a ha).2
variable {N B C : Evn → Sto → Prop} {Rt : U → Sto → Prop}
theorem hand_s0 {k d : Nat} {S : Sto} (hk : 3 < k) (hd : DrumAt S d) (hN : ∀ n ls S', LS S' n 18 ls → n ≠ d → Keep [d] S S' → DrumAt S' d → N [some (.loc d), some (.loc n), none, none, none, none, none, none, none, none] S') :
    wpS (evS (callF T k) s_law_hand_right_0 [some (.loc d), none, none, none, none, none, none, none, none, none] S) N B C Rt := by
  have hdl : d < S.length := by obtain ⟨a, b, e⟩ := hd; exact (List.getElem?_eq_some_iff.mp e).1
  rw [wpS_as, wp_bin]
  refine wp_compM (j := .vals ([0, 1, 2, 3, 8, 20, 60, 120, 200].map fun m : Nat => .int (m : Int))) (S1 := S) (by simp [LIM]) _ (fun S' => Keep [d] S S' ∧ DrumAt S' d) (fun _ y => ∃ a, y = .str a ∧ Good a) rfl (by simp [LIM]) ⟨.refl, hd⟩ (fun _ _ _ => rfl) ?_ ?_
  · intro us S2 ⟨k2, d2⟩ h2
    have hm := h2.mem
    have hl := h2.length
    obtain ⟨ls, rfl, p⟩ := choose_map (f := fun c => U.str c) (P := Good) fun u hu => by obtain ⟨_, _, h⟩ := hm u hu; exact h
    have hkl := k2.len
    simp [Sm, LIM]
    rw [addF_lst (us := ls.map .str) (ws := CL.map .str) (by rw [List.getElem?_append_right (by omega)]; simp) (by rw [List.getElem?_append_right (by omega)]; simp [CL])]
    simp at hl
    refine ⟨by simp [LIM, CL]; omega, ?_⟩
    refine hN _ (ls ++ CL) _ ⟨?_, ?_, ?_⟩ ?_ ?_ ?_
    · rw [get_new, List.map_append]
    · simp [CL]; omega
    · intro a ha
      rcases List.mem_append.mp ha with h | h
      · exact p a h
      · exact CL_good a h
    · simp; omega
    · exact (k2.trans Keep.app).trans Keep.app
    · exact (d2.keep (ds := []) Keep.app (by simp)).keep (ds := []) Keep.app (by simp)
  · intro S2 x ⟨k2, d2⟩ hx
    obtain ⟨m, hm, rfl⟩ := List.mem_map.mp hx
    have h200 : ∀ m ∈ [0, 1, 2, 3, 8, 20, 60, 120, 200], m ≤ 200 := by decide
    have h200 := h200 m hm
    simp [wipeU]
    refine wp_mono (line15 (by omega) d2 (by omega)) fun u S' ⟨a, e, h1, h2, h3, h4⟩ => ?_
    exact ⟨⟨k2.trans h3, h4⟩, a, e, good_line h1 h2 h200⟩
theorem LS.keep {S S' : Sto} {n m : Nat} {ls : List (List Nat)} {ds : List Nat} (h : LS S n m ls) (k : Keep ds S S') (hn : n ∉ ds) : LS S' n m ls := ⟨k.at_ n _ hn h.at_, h.len, h.good⟩
theorem LS.lt {S : Sto} {n m : Nat} {ls : List (List Nat)} (h : LS S n m ls) : n < S.length := (List.getElem?_eq_some_iff.mp h.at_).1
theorem LS.add {S : Sto} {n m p q : Nat} {ls ms : List (List Nat)} (h : LS S n p ls) (h2 : LS S m q ms) {r : Nat} (hr : p + q ≤ r) : LS (S ++ [.lst (ls.map .str ++ ms.map .str)]) S.length r (ls ++ ms) :=
  ⟨by rw [get_new, List.map_append], by rw [List.length_append]; have := h.len; have := h2.len; omega, fun a ha => (List.mem_append.mp ha).elim (h.good a) (h2.good a)⟩
theorem okS_lit {a : List Nat} (h : okS a = true := by decide) : okS a = true := h
theorem hand_s1 {k d n : Nat} {S : Sto} {ls : List (List Nat)} (hk : 3 < k) (hd : DrumAt S d) (hl : LS S n 18 ls) (hnd : n ≠ d) (hN : ∀ n ls S', LS S' n 21 ls → n ≠ d → Keep [d] S S' → DrumAt S' d → N [some (.loc d), some (.loc n), none, none, none, none, none, none, none, none] S') :
    wpS (evS (callF T k) s_law_hand_right_1 [some (.loc d), some (.loc n), none, none, none, none, none, none, none, none] S) N B C Rt := by
  simp
  refine wp_mono (line15 (m := 300) (by omega) hd (by omega)) fun u S1 ⟨a, e, h1, h2, k1, d1⟩ => ?_
  subst e
  simp
  refine ⟨by unfold LIM; omega, ?_⟩
  refine wp_mono (beat_ok tB (by omega) d1 (by omega)) fun u S2 ⟨r, e, r0, r1, k2, d2, l2⟩ => ?_
  subst e
  obtain ⟨m, rfl⟩ := Int.eq_ofNat_of_zero_le r0
  have e5 : (50 + (m : Int)).toNat = 50 + m := by omega
  simp [e5]
  refine ⟨⟨by omega, Sm.of (by omega), by unfold LIM; omega⟩, by unfold LIM; omega, ?_⟩
  refine wp_mono (line15 (m := 190) (by omega) d2 (by omega)) fun u S3 ⟨b, e, g1, g2, k3, d3⟩ => ?_
  subst e
  simp
  have kk := (k1.trans k2).trans k3
  have hl3 := hl.keep kk (by simpa using hnd)
  refine ⟨by unfold LIM; omega, by simp [LIM], ?_⟩
  have hms : LS (S3 ++ [Ob.lst ([SEAL ++ a, SEAL ++ rep (50 + m) [48, 32, 45, 32, 47, 32, 35], [115, 101, 97, 108, 101, 100] ++ b].map .str)]) S3.length 3 [SEAL ++ a, SEAL ++ rep (50 + m) [48, 32, 45, 32, 47, 32, 35], [115, 101, 97, 108, 101, 100] ++ b] := by
    refine ⟨get_new, by simp, ?_⟩
    intro x hx
    simp only [List.mem_cons, List.not_mem_nil, or_false] at hx
    rcases hx with rfl | rfl | rfl
    · exact good_seal h1 (by omega)
    · exact good_seal (okS_rep (by decide) _) (by simp; omega)
    · exact good_short (by rw [okS_app, g1]; decide) (by simp; omega)
  have hl4 := hl3.keep (ds := []) (Keep.app (l := [Ob.lst ([SEAL ++ a, SEAL ++ rep (50 + m) [48, 32, 45, 32, 47, 32, 35], [115, 101, 97, 108, 101, 100] ++ b].map .str)])) (by simp)
  have fin := hl4.add hms (r := 21) (by omega)
  have ha := addF_lst (Q := fun u S => N [some (.loc d), some u, none, none, none, none, none, none, none, none] S) hl4.at_ hms.at_
  have hdl : d < S3.length := by obtain ⟨a, b, e⟩ := d3; exact (List.getElem?_eq_some_iff.mp e).1
  have hh : wpO (addF (.loc n) (.loc S3.length) (S3 ++ [Ob.lst ([SEAL ++ a, SEAL ++ rep (50 + m) [48, 32, 45, 32, 47, 32, 35], [115, 101, 97, 108, 101, 100] ++ b].map .str)])) (fun u S => N [some (.loc d), some u, none, none, none, none, none, none, none, none] S) := by
    rw [ha]
    refine ⟨by have := hl.len; simp [LIM]; omega, hN _ _ _ fin (by simp; omega) ((kk.trans Keep.app).trans Keep.app) ((d3.keep (ds := []) Keep.app (by simp)).keep (ds := []) Keep.app (by simp))⟩
  simpa [SEAL] using hh
def XL : List Nat := [32, 33, 35, 36, 38, 40, 41, 42, 43, 44, 45, 46, 47, 48, 49, 50, 51, 52, 53, 54, 55, 56, 57, 58, 59, 60, 61, 62, 63, 64, 65, 77, 90, 91, 93, 94, 95, 97, 122, 123, 124, 125, 126]
theorem drum_lt {S : Sto} {d : Nat} (h : DrumAt S d) : d < S.length := by obtain ⟨a, b, e⟩ := h; exact (List.getElem?_eq_some_iff.mp e).1
theorem drum_app {S l : Sto} {d : Nat} (h : DrumAt S d) : DrumAt (S ++ l) d := h.keep (ds := []) Keep.app (by simp)
theorem hand_s2 {k d n : Nat} {S : Sto} {ls : List (List Nat)} (hk : 3 < k) (hd : DrumAt S d) (hl : LS S n 21 ls) (hnd : n ≠ d) (hN : ∀ n ls S', LS S' n 100 ls → n ≠ d → Keep [d] S S' → DrumAt S' d → N [some (.loc d), some (.loc n), none, none, none, none, none, none, none, none] S') :
    wpS (evS (callF T k) s_law_hand_right_2 [some (.loc d), some (.loc n), none, none, none, none, none, none, none, none] S) N B C Rt := by
  have hx : LS (S ++ [Ob.lst ((XL.map fun c => [c]).map .str)]) S.length 50 (XL.map fun c => [c]) := ⟨get_new, by decide, by
    intro a ha
    have : ∀ a ∈ XL.map fun c => [c], okS a = true ∧ a.length ≤ 200 := by decide
    exact good_short (this a ha).1 (this a ha).2⟩
  have hl1 := hl.keep (ds := []) (Keep.app (l := [Ob.lst ((XL.map fun c => [c]).map .str)])) (by simp)
  have h2 := hl1.add hx (r := 71) (by omega)
  rw [wpS_as, wp_bin, wp_bin]
  simp only [ev_var, List.getElem?_cons_succ, List.getElem?_cons_zero, wp_ok, wp_bi, wpL_cons, wpL_nil, ev_str, Bi_list, listF_str, binF_add]
  refine ⟨by simp [LIM], ?_⟩
  have e0 : (XL.map fun c => [c]).map U.str = List.map (fun c => U.str [c]) [32, 33, 35, 36, 38, 40, 41, 42, 43, 44, 45, 46, 47, 48, 49, 50, 51, 52, 53, 54, 55, 56, 57, 58, 59, 60, 61, 62, 63, 64, 65, 77, 90, 91, 93, 94, 95, 97, 122, 123, 124, 125, 126] := rfl
  rw [← e0, addF_lst hl1.at_ hx.at_]
  refine ⟨by have := hl.len; simp [LIM, XL]; omega, ?_⟩
  have dd := drum_lt hd
  have dS := drum_app (l := [Ob.lst (ls.map .str ++ (XL.map fun c => [c]).map .str)]) (drum_app (l := [Ob.lst ((XL.map fun c => [c]).map .str)]) hd)
  have kS : Keep [d] S (S ++ [Ob.lst ((XL.map fun c => [c]).map .str)] ++ [Ob.lst (ls.map .str ++ (XL.map fun c => [c]).map .str)]) := Keep.app.trans Keep.app
  have hne : (S ++ [Ob.lst ((XL.map fun c => [c]).map .str)]).length ≠ d := by simp; omega
  revert h2 dS kS hne
  generalize (S ++ [Ob.lst ((XL.map fun c => [c]).map .str)]).length = q
  generalize (S ++ [Ob.lst ((XL.map fun c => [c]).map .str)] ++ [Ob.lst (ls.map .str ++ (XL.map fun c => [c]).map .str)]) = SS
  intro h2 dS kS hne
  refine wp_compM (j := .vals ([58, 59, 47, 45, 46, 42, 35, 61, 62].map fun c => .str [c])) (S1 := SS) ?_ _ (fun S' => Keep [d] SS S' ∧ DrumAt S' d) (fun _ y => ∃ a, y = .str a ∧ Good a) ?_ ?_ ⟨.refl, dS⟩ (fun _ _ _ => rfl) ?_ ?_
  · simp only [wpI_sq, ev_str, wp_ok, asJ_str]; exact ⟨by trivial, by trivial⟩
  · rfl
  · simp [LIM]
  · intro us S2 ⟨k2, d2⟩ h3
    have hm := h3.mem
    have hll := h3.length
    obtain ⟨ms, rfl, p⟩ := choose_map (f := fun c => U.str c) (P := Good) fun u hu => by obtain ⟨_, _, h⟩ := hm u hu; exact h
    simp at hll
    have hms : LS (S2 ++ [Ob.lst (ms.map .str)]) S2.length 9 ms := ⟨get_new, by omega, p⟩
    have h2' := h2.keep k2 (by simpa using hne)
    have h2'' := h2'.keep (ds := []) (Keep.app (l := [Ob.lst (ms.map .str)])) (by simp)
    have fin := h2''.add hms (r := 100) (by omega)
    have hkl := k2.len
    have hdS := drum_lt dS
    rw [addF_lst h2''.at_ hms.at_]
    refine ⟨by have := h2''.len; have := hms.len; simp only [List.length_map, LIM]; omega, ?_⟩
    exact hN _ _ _ fin (by simp; omega) (((kS.trans k2).trans Keep.app).trans Keep.app) (drum_app (drum_app d2))
  · intro S2 x ⟨k2, d2⟩ hx
    obtain ⟨c, hc, rfl⟩ := List.mem_map.mp hx
    have hok : ∀ c ∈ [58, 59, 47, 45, 46, 42, 35, 61, 62], okS [c] = true := by decide
    have hok := hok c hc
    simp [wipeU]
    refine wp_mono (line15 (m := 12) (by omega) d2 (by omega)) fun u S' ⟨a, e, h1, h2, h3, h4⟩ => ?_
    subst e
    simp
    refine ⟨by unfold LIM; omega, ⟨k2.trans h3, h4⟩, ?_⟩
    exact good_short (by rw [okS_app, h1, hok]; rfl) (by simp; omega)
theorem hand_s3 {k d n : Nat} {S : Sto} {ls : List (List Nat)} (hk : 3 < k) (hl : LS S n 100 ls) (hN : ∀ S', Keep [] S S' → N [some (.loc d), some (.loc n), none, none, none, none, none, none, none, none] S') :
    wpS (evS (callF T k) s_law_hand_right_3 [some (.loc d), some (.loc n), none, none, none, none, none, none, none, none] S) N B C Rt := by
  simp
  refine wp_compA (j := .lst n) (S1 := S) (by simp [asJ_loc (seqAt_at hl.at_)]) ls .str (fun _ => .bl true) (fun S' => Keep [] S S') (by rw [J_len_lst (seqAt_at hl.at_)]; simp) (by have := hl.len; unfold LIM; omega) .refl (fun S' i h => J_at_lst (h.seq (by simp) (seqAt_at hl.at_))) ?_ ?_
  · intro S2 k2
    rw [allF_true (seqAt_at get_new) (by simp)]
    simp
    exact hN _ (k2.trans Keep.app)
  · intro S2 a k2 ha
    simp [wipeU]
    have hg := hl.good a ha
    exact wp_mono (right16 (by omega) hg.2 hg.1) fun u S' ⟨e, h⟩ => ⟨k2.trans h, e⟩
theorem hand_s4 {k d : Nat} {x : Option U} {S : Sto} (hk : 3 < k) (hd : DrumAt S d) (hN : ∀ a S', okS a = true → 2 ≤ a.length → a.length ≤ 152 → Keep [d] S S' → DrumAt S' d → N [some (.loc d), x, none, none, some (.str a), none, none, none, none, none] S') :
    wpS (evS (callF T k) s_law_hand_right_4 [some (.loc d), x, none, none, none, none, none, none, none, none] S) N B C Rt := by
  simp
  refine wp_mono (line15 (m := 150) (by omega) hd (by omega)) fun u S' ⟨a, e, h1, h2, h3, h4⟩ => ?_
  subst e
  simp
  exact ⟨by unfold LIM; omega, hN _ _ (by rw [okS_app, h1]; decide) (by simp) (by simp; omega) h3 h4⟩
theorem hand_s5 {k d : Nat} {x : Option U} {S : Sto} {a : List Nat} (hk : 3 < k) (hd : DrumAt S d) (ha : 2 ≤ a.length) (ha2 : a.length ≤ 152) (hN : ∀ (p : Nat) S', p + 1 < a.length → Keep [d] S S' → DrumAt S' d → N [some (.loc d), x, none, none, some (.str a), some (.int (p : Int)), none, none, none, none] S') :
    wpS (evS (callF T k) s_law_hand_right_5 [some (.loc d), x, none, none, some (.str a), none, none, none, none, none] S) N B C Rt := by
  simp
  refine ⟨by unfold LIM; omega, ?_⟩
  refine wp_mono (beat_ok (many := (a.length : Int) - 1) tB (by omega) hd (by omega)) fun u S' ⟨r, e, h1, h2, h3, h4, _⟩ => ?_
  subst e
  obtain ⟨p, rfl⟩ := Int.eq_ofNat_of_zero_le h1
  exact hN p S' (by omega) h3 h4
theorem hand_s6 {k d p : Nat} {x : Option U} {S : Sto} {a : List Nat} (hk : 4 < k) (hd : DrumAt S d) (ho : okS a = true) (ha2 : a.length ≤ 152) (hp : p + 1 < a.length) (hN : ∀ o S', Keep [d] S S' → DrumAt S' d → N [some (.loc d), x, none, none, some (.str a), some (.int (p : Int)), o, none, none, none] S') :
    wpS (evS (callF T k) s_law_hand_right_6 [some (.loc d), x, none, none, some (.str a), some (.int (p : Int)), none, none, none, none] S) N B C Rt := by
  have hL : a.length ≤ LIM := by unfold LIM; omega
  obtain ⟨u1, S1, e1, c, rfl, hc, k1, d1, _⟩ := wp_out (one_str (k := k) (ib := 9) (a := [97, 98, 58]) tO tB (by omega) hd (by decide) (by decide))
  have hc' : okS [c] = true := by
    have : ∀ c ∈ [97, 98, 58], okS [c] = true := by decide
    exact this c hc
  have c1 : atI a ((p : Int) + 1) = some a[p + 1] := by rw [show ((p : Int) + 1) = ((p + 1 : Nat) : Int) by omega]; exact Bq.atI_nat hp
  have c0 : atI a (p : Int) = some a[p] := Bq.atI_nat (by omega)
  have ht : cutL a none (some (p : Int)) = a.take p := cutL_to
  have hf1 : cutL a (some ((p : Int) + 1)) none = a.drop (p + 1) := by rw [show ((p : Int) + 1) = ((p + 1 : Nat) : Int) by omega]; exact cutL_from
  have hf2 : cutL a (some ((p : Int) + 2)) none = a.drop (p + 2) := by rw [show ((p : Int) + 2) = ((p + 2 : Nat) : Int) by omega]; exact cutL_from
  have hm : okS [a[p]] = true ∧ okS [a[p + 1]] = true := by
    rw [okS_iff] at ho
    exact ⟨okS_iff.mpr (by simpa using ho _ (List.getElem_mem _)), okS_iff.mpr (by simpa using ho _ (List.getElem_mem _))⟩
  have G : ∀ y ∈ [a.take p ++ [c] ++ a.drop (p + 1), a.take p ++ [a[p + 1]] ++ [a[p]] ++ a.drop (p + 2), a.take (a.length - 1), a ++ [32]], Good y := by
    intro y hy
    simp only [List.mem_cons, List.not_mem_nil, or_false] at hy
    rcases hy with rfl | rfl | rfl | rfl
    · exact good_short (by rw [okS_app, okS_app, okS_take ho, okS_drop ho, hc']; rfl) (by simp; omega)
    · exact good_short (by rw [okS_app, okS_app, okS_app, okS_take ho, okS_drop ho, hm.1, hm.2]; rfl) (by simp; omega)
    · exact good_short (okS_take ho) (by simp; omega)
    · exact good_short (by rw [okS_app, ho]; decide) (by simp; omega)
  have gl : Good a := good_short ho (by omega)
  refine wpS_forE (j := .vals ([a.take p ++ [c] ++ a.drop (p + 1), a.take p ++ [a[p + 1]] ++ [a[p]] ++ a.drop (p + 2), a.take (a.length - 1), a ++ [32]].map .str)) (S1 := S1) ?_ _
    (fun _ e S' => ∃ o, e = [some (.loc d), x, none, none, some (.str a), some (.int (p : Int)), o, none, none, none] ∧ Keep [d] S S' ∧ DrumAt S' d) rfl ⟨none, rfl, k1, d1⟩ (fun _ _ _ _ => rfl) ?_ ?_
  · simp [hL, e1, ht, hf1, hf2, ixF_str hL c1, ixF_str hL c0, cutL_butlast]
    refine ⟨?_, ?_, ?_, ?_, ?_, ?_, ?_⟩ <;> first | (unfold LIM; omega) | trivial
  · rintro e S' ⟨o, rfl, h1, h2⟩
    exact hN o S' h1 h2
  · rintro i e S' y ⟨o, rfl, h1, h2⟩ hy
    obtain ⟨b, hb, rfl⟩ := List.mem_map.mp (List.mem_of_getElem? hy)
    have gb := G b hb
    have hb1 : b.length ≤ 1000000 := by have := gb.2; omega
    have ha1 : a.length ≤ 1000000 := by omega
    simp
    refine wp_mono (checkof (by omega) hb1 gb.1) fun u S2 ⟨e, q2⟩ => ?_
    subst e
    refine wp_mono (checkof (by omega) ha1 gl.1) fun u S3 ⟨e, q3⟩ => ?_
    subst e
    simp
    refine wp_mono (check13 (by omega) (by unfold LIM; omega)) fun u S4 ⟨e, e4⟩ => ?_
    subst e e4
    refine wp_mono (check13 (by omega) hL) fun u S4 ⟨e, e4⟩ => ?_
    subst e e4
    simp
    refine wp_mono (right16 (by omega) gb.2 gb.1) fun u S5 ⟨e, q5⟩ => ?_
    subst e
    have kk : Keep [d] S' S5 := ((q2.trans q3).trans q5).nil
    simp
    exact ⟨h1.trans kk, h2.keep ((q2.trans q3).trans q5) (by simp)⟩
theorem hand_s7 {k d n : Nat} {b c o : Option U} {S : Sto} {ls : List (List Nat)} (hk : 3 < k) (hd : DrumAt S d) (hl : LS S n 100 ls) (hnd : n ≠ d) (hN : ∀ m ms S', LS S' m 100 ms → Keep [d] S S' → DrumAt S' d → m ≠ d → N [some (.loc d), some (.loc n), none, none, b, c, o, some (.loc m), none, none] S') :
    wpS (evS (callF T k) s_law_hand_right_7 [some (.loc d), some (.loc n), none, none, b, c, o, none, none, none] S) N B C Rt := by
  simp
  refine wp_mono (shuf_ok (ib := 9) (us := ls.map .str) tSh tB (by omega) hd (by have := hl.len; simp; omega) (listF_loc (seqAt_at hl.at_))) fun v S1 ⟨m, ws, e, h0, h1, h2, h3, h4⟩ => ?_
  subst e
  have hdl := drum_lt hd
  refine wp_mono (beat_ok (many := 20) tB (by omega) h4 (by omega)) fun u S2 ⟨r, e, r0, r1, k2, d2, l2⟩ => ?_
  subst e
  obtain ⟨q, rfl⟩ := Int.eq_ofNat_of_zero_le r0
  have hm : S2[m]? = some (.lst ws) := k2.at_ _ _ (by simp; omega) h1
  obtain ⟨ms, e, g⟩ := choose_map (us := cutL ws none (some (1 + (q : Int)))) (f := U.str) (P := Good) fun u hu => by
    have := (h2.mem_iff).mp (cutL_mem hu)
    obtain ⟨a, ha, rfl⟩ := List.mem_map.mp this
    exact ⟨a, rfl, hl.good a ha⟩
  simp only [addF_int, wpO_some, wp_asPart]
  rw [slF_loc (seqAt_at hm), e]
  simp only [wpO_some]
  have hw := h2.length_eq
  have hle : ms.length ≤ 100 := by
    have h5 : (cutL ws none (some (1 + (q : Int)))).length ≤ ws.length := cutL_len
    rw [e] at h5
    simp at h5 hw
    have := hl.len
    omega
  have := drum_lt d2
  exact hN S2.length ms _ ⟨get_new, hle, g⟩ ((h3.trans k2).trans Keep.app) (drum_app d2) (by omega)
theorem LS.lines {S : Sto} {n : Nat} {ls : List (List Nat)} (h : LS S n 100 ls) : Lines ls := ⟨by have := h.len; omega, fun a ha => h.good a ha⟩
theorem hand_s8 {k d m : Nat} {x b c o : Option U} {S : Sto} {ms : List (List Nat)} (hk : 3 < k) (hl : LS S m 100 ms) (hN : ∀ S', Keep [] S S' → N [some (.loc d), x, none, none, b, c, o, some (.loc m), some (.str (logS ms)), none] S') :
    wpS (evS (callF T k) s_law_hand_right_8 [some (.loc d), x, none, none, b, c, o, some (.loc m), none, none] S) N B C Rt := by
  simp
  refine wp_compA (j := .lst m) (S1 := S) (by simp [asJ_loc (seqAt_at hl.at_)]) ms .str (fun a => .str (beadS a)) (fun S' => Keep [] S S') (by rw [J_len_lst (seqAt_at hl.at_)]; simp) (by have := hl.len; unfold LIM; omega) .refl (fun S' i h => J_at_lst (h.seq (by simp) (seqAt_at hl.at_))) ?_ ?_
  · intro S2 k2
    rw [joinF_map (seqAt_at get_new)]
    refine ⟨?_, hN _ (k2.trans Keep.app)⟩
    have := log_len ms fun a ha => (hl.good a ha).2
    have := hl.len
    unfold LIM; omega
  · intro S2 a k2 ha
    have hg := hl.good a ha
    simp [wipeU]
    exact wp_mono (bead14 (by omega) (by have := hg.2; omega)) fun u S' ⟨e, h⟩ => by subst h; exact ⟨k2, e⟩
theorem hand_s9 {k d m : Nat} {x c o : Option U} {S : Sto} {ms : List (List Nat)} {a : List Nat} (hk : 6 < k) (hl : LS S m 100 ms) (ga : Good a) (hN : ∀ S', Keep [] S S' → Rt (.bl true) S') :
    wpS (evS (callF T k) s_law_hand_right_9 [some (.loc d), x, none, none, some (.str a), c, o, some (.loc m), some (.str (logS ms)), none] S) N B C Rt := by
  have hll := hl.lines
  have hl2 : Lines [a, a] := ⟨by simp, fun b hb => by simp at hb; subst hb; exact ga⟩
  have hlog : (logS ms).length ≤ 300400 := by
    have h1 := log_len ms fun a ha => (hl.good a ha).2
    have h2 := hl.len
    have : (logS ms).length = ((ms.map beadS).map List.length).sum := by unfold logS; rw [List.length_flatten]
    omega
  simp [lenF_loc]
  rw [tupleF_loc (seqAt_at hl.at_)]
  simp
  refine wp_mono (logof (by omega) hll) fun u S1 ⟨e, k1⟩ => ?_
  subst e
  rw [tupleF_loc (k1.seq (by simp) (seqAt_at hl.at_))]
  simp
  refine wp_mono (logof (by omega) hll) fun u S2 ⟨e, k2⟩ => ?_
  subst e
  refine wp_mono (logof (ls := []) (by omega) ⟨by simp, by simp⟩) fun u S3 ⟨e, k3⟩ => ?_
  subst e
  refine ⟨by decide, ?_⟩
  refine wp_mono (logof (ls := [a, a]) (by omega) hl2) fun u S4 ⟨e, k4⟩ => ?_
  subst e
  refine ⟨by decide, ?_⟩
  have h0 : (S4 ++ [Ob.lst [U.str (logS ms), U.str (logS ms), U.str (logS []), U.str (logS [a, a])]])[S4.length]? = some (.lst ([logS ms, logS ms, logS [], logS [a, a]].map .str)) := get_new
  have k5 : Keep [] S4 (S4 ++ [Ob.lst [U.str (logS ms), U.str (logS ms), U.str (logS []), U.str (logS [a, a])]]) := Keep.app
  revert h0 k5
  generalize (S4 ++ [Ob.lst [U.str (logS ms), U.str (logS ms), U.str (logS []), U.str (logS [a, a])]]) = S5
  intro h0 k5
  refine wp_mono (bead14 (by omega) (by have := ga.2; omega)) fun u S6 ⟨e, e6⟩ => ?_
  subst e e6
  simp [Sm]
  have hb := bead_len a
  refine ⟨by have := ga.2; unfold LIM; omega, by decide, ?_⟩
  have e2 : rep 2 (beadS a) = logS [a, a] := by simp [rep, logS, List.replicate]
  have kk : Keep [] S6 (S6 ++ [Ob.lst [U.str (logS ms), U.str (logS ms), U.str [], U.str (rep 2 (beadS a))]]) := Keep.app
  refine wp_mono (same_ok tSa 1 k _ _ _ (by omega) (same_strs (as := [logS ms, logS ms, logS [], logS [a, a]]) (kk.seq (by simp) (seqAt_at h0)) (by rw [seqAt_at get_new, e2]; rfl) (by simp [LIM]))) fun u S7 ⟨e, k7⟩ => ?_
  subst e
  exact hN _ (((((k1.trans k2).trans k3).trans k4).trans k5).trans (kk.trans k7))
theorem hand17 {k d : Nat} {S : Sto} (hk : 8 < k) (hd : DrumAt S d) : wp (callF T k 17 [.loc d] S) fun u S' => u = .bl true ∧ Keep [d] S S' := by
  refine callF_step (F := ⟨"_law_hand_right", ["drum"], ["drum", "lines", "most", "sign", "line", "spot", "other", "some", "due", "own"], b_law_hand_right⟩) rfl (by omega) rfl ?_
  simp only [b_law_hand_right]
  rw [wpS_cons]
  refine hand_s0 (by omega) hd fun n ls S0 l0 n0 k0 d0 => ?_
  rw [wpS_cons]
  refine hand_s1 (by omega) d0 l0 n0 fun n ls S1 l1 n1 k1 d1 => ?_
  rw [wpS_cons]
  refine hand_s2 (by omega) d1 l1 n1 fun n ls S2 l2 n2 k2 d2 => ?_
  rw [wpS_cons]
  refine hand_s3 (by omega) l2 fun S3 k3 => ?_
  have l3 := l2.keep k3 (by simp)
  have d3 := d2.keep k3 (by simp)
  rw [wpS_cons]
  refine hand_s4 (by omega) d3 fun a S4 o4 a4 b4 k4 d4 => ?_
  rw [wpS_cons]
  refine hand_s5 (by omega) d4 a4 b4 fun p S5 p5 k5 d5 => ?_
  rw [wpS_cons]
  refine hand_s6 (by omega) d5 o4 b4 p5 fun o S6 k6 d6 => ?_
  have l6 := ((l3.keep k4 (by simpa using n2)).keep k5 (by simpa using n2)).keep k6 (by simpa using n2)
  rw [wpS_cons]
  refine hand_s7 (by omega) d6 l6 n2 fun m ms S7 l7 k7 d7 n7 => ?_
  rw [wpS_cons]
  refine hand_s8 (by omega) l7 fun S8 k8 => ?_
  have l8 := l7.keep k8 (by simp)
  rw [wpS_cons]
  refine hand_s9 (by omega) l8 (good_short o4 (by omega)) fun S9 k9 => ?_
  exact ⟨rfl, (((((((((k0.trans k1).trans k2).trans k3.nil).trans k4).trans k5).trans k6).trans k7).trans k8.nil).trans k9.nil)⟩
theorem law : LawTrue T 20 18 63 := by
  intro ns S u hl hs
  have main : wp (callF T 20 18 [u] S) fun v S' => v = .bl true := by
    refine callF_step (F := ⟨"law", ["script"], ["script", "told", "hand"], b_law⟩) rfl (by omega) rfl ?_
    simp only [b_law, wpS_cons]
    have gB : lineB [98, 97, 99, 107] = true := by decide
    have gE : lineB [] = true := by decide
    simp
    refine wp_mono (checkof (a := [98, 97, 99, 107]) (by omega) (by simp) gB) fun u1 S1 ⟨e, k1⟩ => ?_
    subst e
    refine wp_mono (beadof (a := [98, 97, 99, 107]) (by omega) (by simp) gB) fun u1 S2 ⟨e, k2⟩ => ?_
    subst e
    refine wp_mono (beadof (a := []) (by omega) (by simp) gE) fun u1 S3 ⟨e, k3⟩ => ?_
    subst e
    refine ⟨by decide, ?_⟩
    refine wp_mono (logof (ls := [[98, 97, 99, 107], []]) (by omega) ⟨by simp, fun a ha => by simp at ha; rcases ha with rfl | rfl; exact ⟨gB, by simp⟩; exact ⟨gE, by simp⟩⟩) fun u1 S4 ⟨e, k4⟩ => ?_
    subst e
    refine wp_mono (checkof (a := []) (by omega) (by simp) gE) fun u1 S5 ⟨e, k5⟩ => ?_
    subst e
    have v1 : ckS [98, 97, 99, 107] = [110, 113] := by decide
    have v2 : beadS [98, 97, 99, 107] = [110, 113, 58, 98, 97, 99, 107, 10] := by decide
    have v3 : beadS [] = [97, 98, 58, 10] := by decide
    have v4 : logS [[98, 97, 99, 107], []] = [110, 113, 58, 98, 97, 99, 107, 10, 97, 98, 58, 10] := by decide
    have v5 : ckS [] = [97, 98] := by decide
    rw [v1, v2, v3, v4, v5]
    refine ⟨by decide, ?_⟩
    have kS : Keep [] S S5 := (((k1.trans k2).trans k3).trans k4).trans k5
    generalize hL : [[110, 113], [110, 113, 58, 98, 97, 99, 107, 10], [97, 98, 58, 10], [110, 113, 58, 98, 97, 99, 107, 10, 97, 98, 58, 10], [97, 98]] = L
    have hL2 : [U.str [110, 113], U.str [110, 113, 58, 98, 97, 99, 107, 10], U.str [97, 98, 58, 10], U.str [110, 113, 58, 98, 97, 99, 107, 10, 97, 98, 58, 10], U.str [97, 98]] = L.map .str := by rw [← hL]; rfl
    rw [hL2]
    have h0 : (S5 ++ [Ob.lst (L.map .str), .lst (L.map .str)])[S5.length]? = some (.lst (L.map .str)) := by rw [List.getElem?_append_right (by omega)]; simp
    have h1 : (S5 ++ [Ob.lst (L.map .str), .lst (L.map .str)])[S5.length + 1]? = some (.lst (L.map .str)) := by rw [List.getElem?_append_right (by omega)]; simp
    refine wp_mono (same_ok tSa 1 19 _ _ _ (by omega) (same_strs (seqAt_at h0) (seqAt_at h1) (by rw [← hL]; simp [LIM]))) fun w S6 ⟨e, k6⟩ => ?_
    subst e
    simp
    have kS6 : Keep [] S S6 := (kS.trans Keep.app).trans k6
    refine wp_compA (j := .vals ([0, 1].map fun m : Nat => .int (m : Int))) (S1 := S6) (by simp [LIM]) [0, 1] (fun m : Nat => .int (m : Int)) (fun _ => .bl true) (fun S' => Keep [] S S') rfl (by simp [LIM]) kS6 (fun _ _ _ => rfl) ?_ ?_
    · intro S2 _
      rw [allF_true (seqAt_at get_new) (by simp)]
      rfl
    · intro S2 m k2' hm
      simp [wipeU]
      refine wp_mono (drum_ok tD (by omega) (hs.keep k2')) fun v S7 ⟨d, e, hd, k7, d7⟩ => ?_
      subst e
      exact wp_mono (hand17 (by omega) d7) fun v S8 ⟨e, k8⟩ => ⟨k2'.trans ((k7.nil.trans k8).old (by simpa using hd)), e⟩
  obtain ⟨v, S', e, e2⟩ := wp_out main
  exact ⟨S', by rw [e, e2]⟩
end K17

set_option linter.all false
set_option maxRecDepth 100000
set_option maxHeartbeats 0
namespace K17
open PySem
open PySem.Spec
open PyProof.Rows
open L2
open Bq
abbrev prg : Program := PySem.Challenge.rw_balancedhues_k17_checks_and_beads.prog
theorem chk : chkAll prg T ix fr gls = true := by decide +kernel
abbrev rowR : PySem.W.OpenRow := PySem.W.OpenLaw.row PySem.Challenge.rw_balancedhues_k17_checks_and_beads
def fnD : List He.DefD := dfOf prg T ix
def faD : List He.Fa := faOf T fr gls
def loose : List Str := (["HueError", "InvalidLine", "InvalidLines", "SEALED", "MOST_SIGNS", "LETTERS", "CHECKS", "is_line_of", "check_by", "bead_by", "log_by", "check_line", "check_of", "bead_of", "log_of", "_law_drum", "_law_beat", "_law_one", "_law_shuffled", "_law_same", "_law_check", "_law_bead", "_law_line", "_law_line_right", "_law_hand_right"] : List Str)
abbrev hk : PySem.W.Hook := He.hookD 4 faD fnD
def ob (s : PySem.W.SharedT) : He.AlD := He.obsDG 4 faD fnD (HandSHeadRun.getT s)
theorem ob_eq (s : PySem.W.SharedT) : ob s = hk.obs s.abs := He.obsDG_eq (HandSHeadRun.getT_eq s)
theorem run (w : World) : HandSHeadRun.RunEq rowR (PySem.W.view rowR.prog [29]) hk ob 3400 loose w := by
  intro os
  kernel_rfl
open PySem PySem.W PySem.Calls PyProof.Rows in
theorem holds (law : LawTrue T 20 18 63) : PySem.Challenge.rw_balancedhues_k17_checks_and_beads.Holds := by
  w_on; o_law
  refine HandSHeadRun.head_any (r := OpenLaw.row PySem.Challenge.rw_balancedhues_k17_checks_and_beads) (q := view (OpenLaw.row PySem.Challenge.rw_balancedhues_k17_checks_and_beads).prog [29]) (H := hk) (ob := ob) (M := 3400) (loose := loose) (d := HandSHeadRun.topDef (OpenLaw.row PySem.Challenge.rw_balancedhues_k17_checks_and_beads).prog 29) (kwd := []) ob_eq
    (by kernel_rfl) (fun s => by kernel_rfl) run (by kernel_rfl) (by kernel_rfl) (by kernel_rfl) (by rfl) (by first | assumption | decide +kernel) (by decide +kernel) ⟨rfl, rfl, rfl, rfl, rfl, by decide +kernel⟩ ?hw ?hc
  case hw => w_witness2
  case hc =>
    refine L2.walk_ofE (l := PySem.Challenge.rw_balancedhues_k17_checks_and_beads) (n := 63) (k := 20) (x := "script") (CX := CXw PySem.Challenge.rw_balancedhues_k17_checks_and_beads.prog) rfl (by decide) (by kernel_rfl) ⟨rfl, by decide, by decide⟩ ?F (fun H s e s' c => by obtain ⟨_, _, _, _, _, _, _, _, _, _, _, _, _, z⟩ := c; exact z)
    intro w mg fa h Y G hmg0
    obtain ⟨K, KX, c⟩ := Y
    have hmg : mg ("law" : PySem.Str) = some (.ref fa) := by
      have e : (HandSHeadRun.topDef (OpenLaw.row PySem.Challenge.rw_balancedhues_k17_checks_and_beads).prog 29).name = ("law" : PySem.Str) := by kernel_rfl
      rw [← e]
      exact hmg0
    exact law_end KX G c chk (iL := 18) rfl rfl rfl hmg law
end K17

theorem PySem.Challenge.cw_balancedhues_k17_checks_and_beads_holds : PySem.Challenge.rw_balancedhues_k17_checks_and_beads.Holds :=
  K17.holds K17.law
