import PyProof.Rows.All
import Wide.All
import OpenK.AllK
import Wide.FinOn
import HandS.ForMost
import HandS.ForExc
import HandS.StrMore
import HandS.IsInst
import HandS.Conv
import HandS.Style
import HandS.Flow
import HandS.HeadHook1
import HandS.SetFor
import HandS.HeadWalk
import HandS.More
import HandS.ExcIs
import HandS.ReplaceLit
import HandS.ReplaceList
import HandS.RaiseMore
import HandS.Small
import HandS.TryOnly
import HandS.Defaults
import HandS.HeadHook4
import HandS.Head2
import HandS.HeadEnd
import HandS.Codes
import KE.KStateDown
import HandS.Head0
import HandS.Head1
import HandS.HeadHook2
import HandS.HeadHook3
import PySem.Challenge.RW_settingbook_k01_whole_values
set_option Elab.async false
set_option linter.all false
set_option linter.all false
set_option autoImplicit false
set_option maxHeartbeats 1000000
namespace DL
open PySem PySem.Spec PyProof.Rows L2
/-! ### data -/
abbrev Tx := List Nat
/-- what a program's value is, as a tree; ref: a live (changeable) object; scr: the script -/
inductive D where
  | non | bl (b : Bool) | int (i : Int) | str (s : Tx)
  | lst (ds : List D) | tup (ds : List D)
  | dct (kvs : List (Tx × D))
  | ins (a : Addr) (c : String) (fs : List (String × D))
  | exc (a : Addr) (c : String) (fs : List (String × D))
  | ref (a : Addr)
  | scr (ns : List Int)
/-- a live object -/
inductive Cell where
  | lst (ds : List D) | dct (kvs : List (Tx × D)) | ins (c : String) (fs : List (String × D))
abbrev DS := Addr → Option Cell
def DS.upd (S : DS) (a : Addr) (c : Cell) : DS := fun b => if b = a then some c else S b
def DS.del (S : DS) (a : Addr) : DS := fun b => if b = a then none else S b
section
variable {S : DS} {a b : Addr} {c c' : Cell}
@[simp] theorem DS.upd_same : (S.upd a c) a = some c := by unfold DS.upd; rw [if_pos rfl]
theorem DS.upd_ne (h : b ≠ a) : (S.upd a c) b = S b := by unfold DS.upd; rw [if_neg h]
@[simp] theorem DS.del_same : (S.del a) a = none := by unfold DS.del; rw [if_pos rfl]
theorem DS.del_ne (h : b ≠ a) : (S.del a) b = S b := by unfold DS.del; rw [if_neg h]
@[simp] theorem DS.upd_upd : (S.upd a c).upd a c' = S.upd a c' := by
  funext x; unfold DS.upd; split <;> rfl
theorem DS.upd_eq (h : S a = some c) : S.upd a c = S := by
  funext x; unfold DS.upd; split
  · rename_i e; rw [e, h]
  · rfl
theorem DS.del_upd (h : S a = none) : (S.upd a c).del a = S := by
  funext x
  by_cases e : x = a
  · rw [e, DS.del_same, h]
  · rw [DS.del_ne e, DS.upd_ne e]
theorem DS.upd_comm (h : a ≠ b) : (S.upd a c).upd b c' = (S.upd b c').upd a c := by
  funext x; unfold DS.upd; split <;> split <;> first | rfl | (rename_i e e'; exact absurd (e'.symm.trans e) h)
theorem DS.ne_of (h : S a = none) (h' : S b = some c) : a ≠ b := by
  intro e; rw [e, h'] at h; cases h
end
def tS (s : Tx) : Str := ⟨s.toArray⟩
theorem tS_cps (s : Tx) : (tS s).cps.toList = s := by unfold tS; simp
theorem tS_length (s : Tx) : (tS s).length = s.length := by unfold tS Str.length; simp
theorem tS_inj {s t : Tx} (h : tS s = tS t) : s = t := by rw [← tS_cps s, h, tS_cps]
theorem tS_of (x : Str) : tS x.cps.toList = x := by unfold tS; simp
theorem tS_append (s t : Tx) : tS s ++ tS t = tS (s ++ t) := by
  show Str.append (tS s) (tS t) = _
  unfold Str.append tS; simp
/-- the text's signs are signs, it fits -/
def TxOk (s : Tx) : Prop := s.length ≤ sizeLine ∧ ∀ c ∈ s, c < 1114112
theorem TxOk.sub {s t : Tx} (h : TxOk s) (hl : t.length ≤ s.length) (hm : ∀ c ∈ t, c ∈ s) : TxOk t := ⟨Nat.le_trans hl h.1, fun c hc => h.2 c (hm c hc)⟩
theorem TxOk.app {s t : Tx} (h : TxOk s) (h' : TxOk t) (hl : s.length + t.length ≤ sizeLine) : TxOk (s ++ t) :=
  ⟨by rw [List.length_append]; exact hl, fun c hc => (List.mem_append.mp hc).elim (h.2 c) (h'.2 c)⟩
/-- an exception's object as it stands -/
def excHO (C : Value) (d : Option Addr) (a : Addr) : HO := .ext fun h => ∃ (oe : Obj) (vs : Array Value), h.get? a = some oe ∧ Zc C d oe ∧ oe.data = .fields vs
/-! ### what represents what -/
mutual
def RepV (K : PySem.W.Frag) (F : Hp) : D → V → Prop
  | .non, v => v = .non
  | .bl b, v => v = .bl b
  | .int i, v => v = .int i
  | .str s, v => v = .str (tS s) ∧ TxOk s
  | .lst ds, v => ∃ a vs, v = .ref a ∧ F a = some (.lst vs) ∧ RepL K F ds vs
  | .tup ds, v => ∃ a vs, v = .ref a ∧ SqT K F a vs ∧ RepL K F ds vs
  | .dct kvs, v => ∃ a vs, v = .ref a ∧ F a = some (.dK vs) ∧ RepK K F kvs vs
  | .ins a c fs, v => v = .ref a ∧ ∃ dx vs, F a = some (.ins (He.ga K (Str.ofString c)) dx vs) ∧ RepF K F fs vs
  | .exc a c fs, v => v = .ref a ∧ ∃ d, F a = some (excHO (.ref (He.ga K (Str.ofString c))) d a) ∧ ((fs = [] ∧ d = none) ∨ ∃ dd vs, d = some dd ∧ F dd = some (.xd vs) ∧ RepF K F fs vs)
  | .ref a, v => v = .ref a
  | .scr ns, v => ∃ a, v = .ref a ∧ SqL K F a (ns.map V.int)
def RepL (K : PySem.W.Frag) (F : Hp) : List D → List V → Prop
  | [], vs => vs = []
  | d :: ds, vs => ∃ v r, vs = v :: r ∧ RepV K F d v ∧ RepL K F ds r
def RepK (K : PySem.W.Frag) (F : Hp) : List (Tx × D) → List (Key × V) → Prop
  | [], vs => vs = []
  | (k, d) :: ds, vs => ∃ v r, vs = (.inr (tS k), v) :: r ∧ TxOk k ∧ RepV K F d v ∧ RepK K F ds r
def RepF (K : PySem.W.Frag) (F : Hp) : List (String × D) → List (Str × V) → Prop
  | [], vs => vs = []
  | (k, d) :: ds, vs => ∃ v r, vs = (Str.ofString k, v) :: r ∧ RepV K F d v ∧ RepF K F ds r
end
section
variable {K : PySem.W.Frag} {F F' : Hp}
theorem seqT_mono (e : Same F F') {a : Addr} {xs : List V} (h : SqT K F a xs) : SqT K F' a xs := by
  rcases h with (h | ⟨o, h⟩) | h
  · exact .inl (.inl (e _ _ h))
  · exact .inl (.inr ⟨o, e _ _ h⟩)
  · exact .inr h
mutual
theorem RepV.mono (e : Same F F') : ∀ (d : D) (v : V), RepV K F d v → RepV K F' d v
  | .non, _, h => h
  | .bl _, _, h => h
  | .int _, _, h => h
  | .str _, _, h => h
  | .lst ds, v, h => by
    simp only [RepV] at h ⊢
    obtain ⟨a, vs, h1, h2, h3⟩ := h
    exact ⟨a, vs, h1, e _ _ h2, RepL.mono e ds vs h3⟩
  | .tup ds, v, h => by
    simp only [RepV] at h ⊢
    obtain ⟨a, vs, h1, h2, h3⟩ := h
    exact ⟨a, vs, h1, seqT_mono e h2, RepL.mono e ds vs h3⟩
  | .dct kvs, v, h => by
    simp only [RepV] at h ⊢
    obtain ⟨a, vs, h1, h2, h3⟩ := h
    exact ⟨a, vs, h1, e _ _ h2, RepK.mono e kvs vs h3⟩
  | .ins a c fs, v, h => by
    simp only [RepV] at h ⊢
    obtain ⟨h1, dx, vs, h2, h3⟩ := h
    exact ⟨h1, dx, vs, e _ _ h2, RepF.mono e fs vs h3⟩
  | .exc a c fs, v, h => by
    simp only [RepV] at h ⊢
    obtain ⟨h1, d, h2, h3⟩ := h
    refine ⟨h1, d, e _ _ h2, ?_⟩
    rcases h3 with h3 | ⟨dd, vs, h4, h5, h6⟩
    · exact .inl h3
    · exact .inr ⟨dd, vs, h4, e _ _ h5, RepF.mono e fs vs h6⟩
  | .ref _, _, h => h
  | .scr ns, v, h => by
    simp only [RepV] at h ⊢
    obtain ⟨a, h1, h2⟩ := h
    exact ⟨a, h1, e.seq h2⟩
theorem RepL.mono (e : Same F F') : ∀ (ds : List D) (vs : List V), RepL K F ds vs → RepL K F' ds vs
  | [], _, h => h
  | d :: ds, vs, h => by
    simp only [RepL] at h ⊢
    obtain ⟨v, r, h1, h2, h3⟩ := h
    exact ⟨v, r, h1, RepV.mono e d v h2, RepL.mono e ds r h3⟩
theorem RepK.mono (e : Same F F') : ∀ (ds : List (Tx × D)) (vs : List (Key × V)), RepK K F ds vs → RepK K F' ds vs
  | [], _, h => h
  | (k, d) :: ds, vs, h => by
    simp only [RepK] at h ⊢
    obtain ⟨v, r, h1, h0, h2, h3⟩ := h
    exact ⟨v, r, h1, h0, RepV.mono e d v h2, RepK.mono e ds r h3⟩
theorem RepF.mono (e : Same F F') : ∀ (ds : List (String × D)) (vs : List (Str × V)), RepF K F ds vs → RepF K F' ds vs
  | [], _, h => h
  | (k, d) :: ds, vs, h => by
    simp only [RepF] at h ⊢
    obtain ⟨v, r, h1, h2, h3⟩ := h
    exact ⟨v, r, h1, RepV.mono e d v h2, RepF.mono e ds r h3⟩
end
theorem RepL.length : ∀ {ds : List D} {vs : List V}, RepL K F ds vs → vs.length = ds.length
  | [], vs, h => by simp only [RepL] at h; rw [h]; rfl
  | d :: ds, vs, h => by
    simp only [RepL] at h
    obtain ⟨v, r, h1, h2, h3⟩ := h
    rw [h1, List.length_cons, List.length_cons, RepL.length h3]
theorem RepL.get : ∀ {ds : List D} {vs : List V} {i : Nat} {d : D}, RepL K F ds vs → ds[i]? = some d → ∃ v, vs[i]? = some v ∧ RepV K F d v
  | [], _, i, d, _, e => by simp at e
  | d :: ds, vs, 0, d', h, e => by
    simp only [RepL] at h
    obtain ⟨v, r, h1, h2, h3⟩ := h
    simp at e
    rw [← e, h1]
    exact ⟨v, rfl, h2⟩
  | d :: ds, vs, i + 1, d', h, e => by
    simp only [RepL] at h
    obtain ⟨v, r, h1, h2, h3⟩ := h
    simp at e
    obtain ⟨v', h4, h5⟩ := RepL.get h3 e
    rw [h1]
    exact ⟨v', by simpa using h4, h5⟩
theorem RepL.app : ∀ {ds es : List D} {vs ws : List V}, RepL K F ds vs → RepL K F es ws → RepL K F (ds ++ es) (vs ++ ws)
  | [], es, vs, ws, h, h' => by simp only [RepL] at h; rw [h]; exact h'
  | d :: ds, es, vs, ws, h, h' => by
    simp only [RepL] at h
    obtain ⟨v, r, h1, h2, h3⟩ := h
    rw [h1]
    simp only [List.cons_append, RepL]
    exact ⟨v, r ++ ws, rfl, h2, RepL.app h3 h'⟩
theorem RepL.one {d : D} {v : V} (h : RepV K F d v) : RepL K F [d] [v] := by
  simp only [RepL]
  exact ⟨v, [], rfl, h, rfl⟩
theorem RepL.cons {d : D} {v : V} {ds : List D} {vs : List V} (h : RepV K F d v) (h' : RepL K F ds vs) : RepL K F (d :: ds) (v :: vs) := by
  simp only [RepL]
  exact ⟨v, vs, rfl, h, h'⟩
theorem RepL.take : ∀ (n : Nat) {ds : List D} {vs : List V}, RepL K F ds vs → RepL K F (ds.take n) (vs.take n)
  | 0, _, _, _ => by simp [RepL]
  | n + 1, [], vs, h => by simp only [RepL] at h; rw [h]; simp [RepL]
  | n + 1, d :: ds, vs, h => by
    simp only [RepL] at h
    obtain ⟨v, r, h1, h2, h3⟩ := h
    rw [h1]
    simp only [List.take_succ_cons]
    exact RepL.cons h2 (RepL.take n h3)
theorem RepL.drop : ∀ (n : Nat) {ds : List D} {vs : List V}, RepL K F ds vs → RepL K F (ds.drop n) (vs.drop n)
  | 0, _, _, h => h
  | n + 1, [], vs, h => by simp only [RepL] at h; rw [h]; simp [RepL]
  | n + 1, d :: ds, vs, h => by
    simp only [RepL] at h
    obtain ⟨v, r, h1, h2, h3⟩ := h
    rw [h1]
    simp only [List.drop_succ_cons]
    exact RepL.drop n h3
theorem RepL.rev {ds : List D} {vs : List V} (h : RepL K F ds vs) : RepL K F ds.reverse vs.reverse := by
  induction ds generalizing vs with
  | nil => simp only [RepL] at h; rw [h]; simp [RepL]
  | cons d ds ih =>
    simp only [RepL] at h
    obtain ⟨v, r, h1, h2, h3⟩ := h
    rw [h1]
    simp only [List.reverse_cons]
    exact RepL.app (ih h3) (RepL.one h2)
end
/-! ### a state: hidden things Z, live things S; the rest is frozen -/
def fz (Z H : Hp) (S : DS) : Hp := fun a => match S a with
  | some _ => none
  | none => match Z a with
    | some _ => none
    | none => H a
def CellR (K : PySem.W.Frag) (F H : Hp) (a : Addr) : Cell → Prop
  | .lst ds => ∃ vs, H a = some (.lst vs) ∧ RepL K F ds vs
  | .dct kvs => ∃ vs, H a = some (.dK vs) ∧ RepK K F kvs vs
  | .ins c fs => ∃ dx vs, H a = some (.ins (He.ga K (Str.ofString c)) dx vs) ∧ RepF K F fs vs
structure Sim (K : PySem.W.Frag) (Z H : Hp) (S : DS) : Prop where
  zH : ∀ a o, Z a = some o → H a = some o
  zS : ∀ a o, Z a = some o → S a = none
  cells : ∀ a c, S a = some c → CellR K (fz Z H S) H a c
section
variable {K : PySem.W.Frag} {Z H H' : Hp} {S S' : DS} {F F' : Hp} {a p : Addr} {c c' : Cell}
theorem CellR.mono (e : Same F F') (h : CellR K F H a c) (hH : H' a = H a) : CellR K F' H' a c := by
  cases c with
  | lst ds => obtain ⟨vs, h1, h2⟩ := h; exact ⟨vs, hH.trans h1, RepL.mono e ds vs h2⟩
  | dct kvs => obtain ⟨vs, h1, h2⟩ := h; exact ⟨vs, hH.trans h1, RepK.mono e kvs vs h2⟩
  | ins c fs => obtain ⟨dx, vs, h1, h2⟩ := h; exact ⟨dx, vs, hH.trans h1, RepF.mono e fs vs h2⟩
theorem CellR.some (h : CellR K F H a c) : ∃ o, H a = some o := by
  cases c with
  | lst ds => obtain ⟨vs, h1, h2⟩ := h; exact ⟨_, h1⟩
  | dct kvs => obtain ⟨vs, h1, h2⟩ := h; exact ⟨_, h1⟩
  | ins c fs => obtain ⟨dx, vs, h1, h2⟩ := h; exact ⟨_, h1⟩
theorem fz_some {o : HO} (h : fz Z H S a = some o) : S a = none ∧ Z a = none ∧ H a = some o := by
  unfold fz at h
  split at h
  · cases h
  · rename_i e
    split at h
    · cases h
    · rename_i e2; exact ⟨e, e2, h⟩
theorem fz_of {o : HO} (h1 : S a = none) (h2 : Z a = none) (h3 : H a = some o) : fz Z H S a = some o := by
  unfold fz; rw [h1, h2]; exact h3
theorem Sim.fresh (s : Sim K Z H S) (h : H p = none) : S p = none ∧ Z p = none := by
  constructor
  · cases e : S p with
    | none => rfl
    | some c =>
      obtain ⟨o, ho⟩ := (s.cells p c e).some
      rw [h] at ho; cases ho
  · cases e : Z p with
    | none => rfl
    | some o => rw [s.zH p o e] at h; cases h
theorem fz_sub : Same (fz Z H S) H := fun b o h => (fz_some h).2.2
/-- a new frozen thing -/
theorem Sim.newF (s : Sim K Z H S) (h : H p = none) (o : HO) : Sim K Z (upd H p o) S ∧ Same (fz Z H S) (fz Z (upd H p o) S) ∧ fz Z (upd H p o) S p = some o := by
  obtain ⟨hS, hZ⟩ := s.fresh h
  have e : Same (fz Z H S) (fz Z (upd H p o) S) := fun b u hb => by
    obtain ⟨h1, h2, h3⟩ := fz_some hb
    exact fz_of h1 h2 (by rw [upd_ne (ne_of_none h3 h)]; exact h3)
  refine ⟨⟨fun b u hb => ?_, s.zS, fun b c hb => ?_⟩, e, fz_of hS hZ upd_same⟩
  · have hb' := s.zH b u hb
    rw [upd_ne (ne_of_none hb' h)]; exact hb'
  · obtain ⟨u, hu⟩ := (s.cells b c hb).some
    exact (s.cells b c hb).mono e (upd_ne (ne_of_none hu h))
/-- a new live thing -/
theorem Sim.newL (s : Sim K Z H S) (h : H p = none) (o : HO) (c : Cell) (hc : CellR K (fz Z H S) (upd H p o) p c) : Sim K Z (upd H p o) (S.upd p c) ∧ Same (fz Z H S) (fz Z (upd H p o) (S.upd p c)) ∧ S p = none := by
  obtain ⟨hS, hZ⟩ := s.fresh h
  have e : Same (fz Z H S) (fz Z (upd H p o) (S.upd p c)) := fun b u hb => by
    obtain ⟨h1, h2, h3⟩ := fz_some hb
    have hne : b ≠ p := ne_of_none h3 h
    exact fz_of (by rw [DS.upd_ne hne]; exact h1) h2 (by rw [L2.upd_ne hne]; exact h3)
  refine ⟨⟨fun b u hb => ?_, fun b u hb => ?_, fun b c' hb => ?_⟩, e, hS⟩
  · have hb' := s.zH b u hb
    rw [L2.upd_ne (ne_of_none hb' h)]; exact hb'
  · have hb' := s.zH b u hb
    rw [DS.upd_ne (ne_of_none hb' h)]; exact s.zS b u hb
  · by_cases hbp : b = p
    · subst hbp
      rw [DS.upd_same] at hb; cases hb
      exact hc.mono e rfl
    · rw [DS.upd_ne hbp] at hb
      exact (s.cells b c' hb).mono e (L2.upd_ne hbp)
/-- a live thing is changed -/
theorem Sim.write (s : Sim K Z H S) (h : S a = some c) (o : HO) (c' : Cell) (hc : CellR K (fz Z H S) (upd H a o) a c') : Sim K Z (upd H a o) (S.upd a c') ∧ Same (fz Z H S) (fz Z (upd H a o) (S.upd a c')) := by
  have e : Same (fz Z H S) (fz Z (upd H a o) (S.upd a c')) := fun b u hb => by
    obtain ⟨h1, h2, h3⟩ := fz_some hb
    have hne : b ≠ a := fun q => by rw [q, h] at h1; cases h1
    exact fz_of (by rw [DS.upd_ne hne]; exact h1) h2 (by rw [L2.upd_ne hne]; exact h3)
  have zne : ∀ b u, Z b = some u → b ≠ a := fun b u hb q => by
    have := s.zS b u hb
    rw [q, h] at this; cases this
  refine ⟨⟨fun b u hb => ?_, fun b u hb => ?_, fun b c2 hb => ?_⟩, e⟩
  · rw [L2.upd_ne (zne b u hb)]; exact s.zH b u hb
  · rw [DS.upd_ne (zne b u hb)]; exact s.zS b u hb
  · by_cases hba : b = a
    · subst hba
      rw [DS.upd_same] at hb; cases hb
      exact hc.mono e rfl
    · rw [DS.upd_ne hba] at hb
      exact (s.cells b c2 hb).mono e (L2.upd_ne hba)
end
/-! ### ends -/
abbrev QD := D → DS → Prop
/-- whatever the data-level end wants reaches the end -/
def Got (K : PySem.W.Frag) (Z H : Hp) (S : DS) (Q : QD) (Qv : VK) : Prop :=
  ∀ v H' d S', Same (fz Z H S) (fz Z H' S') → Sim K Z H' S' → RepV K (fz Z H' S') d v → Q d S' → Qv v H'
section
variable {K : PySem.W.Frag} {Z H : Hp} {S : DS} {Q : QD} {Qv : VK}
theorem Got.here (g : Got K Z H S Q Qv) (s : Sim K Z H S) {d : D} {v : V} (r : RepV K (fz Z H S) d v) (q : Q d S) : Qv v H := g v H d S (Same.refl _) s r q
theorem Got.to (g : Got K Z H S Q Qv) {H1 : Hp} {S1 : DS} (e : Same (fz Z H S) (fz Z H1 S1)) : Got K Z H1 S1 Q Qv := fun v H' d S' e' s r q => g v H' d S' (e.trans e') s r q
/-- a list is made -/
def mkL (live : Bool) (ds : List D) (S : DS) (Q : QD) : Prop := match live with
  | true => ∀ a, S a = none → Q (.ref a) (S.upd a (.lst ds))
  | false => Q (.lst ds) S
theorem Got.list (g : Got K Z H S Q Qv) (s : Sim K Z H S) {live : Bool} {ds : List D} {vs : List V} (r : RepL K (fz Z H S) ds vs) (q : mkL live ds S Q) : ∀ p, H p = none → Qv (.ref p) (upd H p (.lst vs)) := fun p hp => by
  cases live with
  | true =>
    obtain ⟨s1, e1, hS⟩ := s.newL hp (.lst vs) (.lst ds) ⟨vs, upd_same, r⟩
    exact g _ _ (.ref p) _ e1 s1 (by simp only [RepV]) (q p hS)
  | false =>
    obtain ⟨s1, e1, h1⟩ := s.newF hp (.lst vs)
    exact g _ _ (.lst ds) _ e1 s1 (by simp only [RepV]; exact ⟨p, vs, rfl, h1, RepL.mono e1 _ _ r⟩) q
theorem Got.tuple (g : Got K Z H S Q Qv) (s : Sim K Z H S) {ds : List D} {vs : List V} (r : RepL K (fz Z H S) ds vs) (q : Q (.tup ds) S) : ∀ p, H p = none → Qv (.ref p) (upd H p (.tup vs)) := fun p hp => by
  obtain ⟨s1, e1, h1⟩ := s.newF hp (.tup vs)
  exact g _ _ (.tup ds) _ e1 s1 (by simp only [RepV]; exact ⟨p, vs, rfl, SqT.of h1, RepL.mono e1 _ _ r⟩) q
end
end DL

set_option linter.all false
set_option autoImplicit false
set_option maxHeartbeats 1000000
namespace DL
open PySem PySem.Spec PyProof.Rows L2
/-- a live list's or a list's items -/
def asL (S : DS) : D → Option (List D)
  | .lst ds => some ds
  | .ref a => match S a with
    | some (.lst ds) => some ds
    | _ => none
  | _ => none
section
variable {K : PySem.W.Frag} {Z H : Hp} {S : DS} {x : V} {d : D} {ds : List D}
theorem asL_ok (s : Sim K Z H S) (r : RepV K (fz Z H S) d x) (e : asL S d = some ds) : ∃ a vs, x = .ref a ∧ H a = some (.lst vs) ∧ RepL K (fz Z H S) ds vs := by
  unfold asL at e
  split at e
  · cases e
    simp only [RepV] at r
    obtain ⟨a, vs, h1, h2, h3⟩ := r
    exact ⟨a, vs, h1, fz_sub _ _ h2, h3⟩
  · rename_i a
    split at e
    · rename_i e2
      cases e
      obtain ⟨vs, h1, h2⟩ := s.cells a _ e2
      simp only [RepV] at r
      exact ⟨a, vs, r, h1, h2⟩
    · cases e
  · cases e
end
/-! ### operators -/
def L2of (K : PySem.W.Frag) (r : R2) (f : D → D → DS → QD → Prop) : Prop :=
  ∀ Z H S x y dx dy Q Qv, Sim K Z H S → RepV K (fz Z H S) dx x → RepV K (fz Z H S) dy y → f dx dy S Q → Got K Z H S Q Qv → r x y H Qv
def dAdd (live : Bool) : D → D → DS → QD → Prop
  | .int i, .int j, S, Q => Q (.int (i + j)) S
  | .str s, .str t, S, Q => s.length + t.length ≤ 16777216 ∧ Q (.str (s ++ t)) S
  | .tup xs, .tup ys, S, Q => xs ≠ [] ∧ ys ≠ [] ∧ xs.length + ys.length ≤ 16777216 ∧ Q (.tup (xs ++ ys)) S
  | .lst xs, .lst ys, S, Q => xs.length + ys.length ≤ 16777216 ∧ mkL live (xs ++ ys) S Q
  | x, y, S, Q => ∃ xs ys, asL S x = some xs ∧ asL S y = some ys ∧ xs.length + ys.length ≤ 16777216 ∧ mkL live (xs ++ ys) S Q
abbrev rAddA (K : PySem.W.Frag) : R2 := fun x y H Q => (rI0 fun i j => .int (i + j)) x y H Q ∨ (∃ i j, x = .str i ∧ y = .str j ∧ i.length + j.length ≤ sizeLine ∧ Q (.str (i ++ j)) H) ∨ rCat x y H Q ∨ rCatT K x y H Q
theorem op_addA {X : Cx} : OpR X (binaryOp .Add) (rAddA X.K) := op_add.or (op_add_str.or (op_cat.or op_catT))
theorem TxOk.le {s : Tx} (h : TxOk s) : s.length ≤ 16777216 := h.1
theorem l_add {K : PySem.W.Frag} {live : Bool} : L2of K (rAddA K) (dAdd live) := by
  intro Z H S x y dx dy Q Qv s rx ry h g
  have gen : ∀ {xs ys : List D}, asL S dx = some xs → asL S dy = some ys → xs.length + ys.length ≤ 16777216 → mkL live (xs ++ ys) S Q → rAddA K x y H Qv := fun {xs ys} e1 e2 hl q => by
    obtain ⟨a, vs, h1, h2, h3⟩ := asL_ok s rx e1
    obtain ⟨b, ws, k1, k2, k3⟩ := asL_ok s ry e2
    refine .inr (.inr (.inl ⟨a, b, vs, ws, h1, k1, h2, k2, ?_, g.list s (h3.app k3) q⟩))
    rw [h3.length, k3.length]; exact hl
  unfold dAdd at h
  split at h
  · simp only [RepV] at rx ry
    exact .inl ⟨_, _, rx, ry, g.here s (by simp only [RepV]) h⟩
  · simp only [RepV] at rx ry
    obtain ⟨hl, q⟩ := h
    refine .inr (.inl ⟨_, _, rx.1, ry.1, by rw [tS_length, tS_length]; exact hl, ?_⟩)
    rw [tS_append]
    exact g.here s (by simp only [RepV]; exact ⟨trivial, rx.2.app ry.2 hl⟩) q
  · rename_i xs ys
    obtain ⟨n1, n2, hl, q⟩ := h
    simp only [RepV] at rx ry
    obtain ⟨a, vs, h1, h2, h3⟩ := rx
    obtain ⟨b, ws, k1, k2, k3⟩ := ry
    have e1 := h3.length
    have e2 := k3.length
    have up : ∀ {c us}, SqT K (fz Z H S) c us → SqT K H c us := fun q => seqT_mono fz_sub q
    have z1 : vs ≠ [] := fun z => by rw [z] at e1; exact n1 (List.length_eq_zero_iff.mp e1.symm)
    have z2 : ws ≠ [] := fun z => by rw [z] at e2; exact n2 (List.length_eq_zero_iff.mp e2.symm)
    refine .inr (.inr (.inr ⟨a, b, vs, ws, h1, k1, up h2, up k2, z1, by rw [e1, e2]; exact hl, fun z => absurd z z2, fun _ p hp => g.tuple s (h3.app k3) q p hp⟩))
  · obtain ⟨hl, q⟩ := h
    exact gen rfl rfl hl q
  · obtain ⟨xs, ys, e1, e2, hl, q⟩ := h
    exact gen e1 e2 hl q
def dSub : D → D → DS → QD → Prop
  | .int i, .int j, S, Q => Q (.int (i - j)) S
  | _, _, _, _ => False
theorem l_sub {K : PySem.W.Frag} : L2of K (rI0 fun i j => .int (i - j)) dSub := by
  intro Z H S x y dx dy Q Qv s rx ry h g
  unfold dSub at h
  split at h
  · simp only [RepV] at rx ry
    exact ⟨_, _, rx, ry, g.here s (by simp only [RepV]) h⟩
  · exact h.elim
def dFdiv : D → D → DS → QD → Prop
  | .int i, .int j, S, Q => (0 < j ∧ j < 1073741824) ∧ Q (.int (i / j)) S
  | _, _, _, _ => False
theorem l_fdiv {K : PySem.W.Frag} : L2of K (rI CDiv fun i j => .int (i / j)) dFdiv := by
  intro Z H S x y dx dy Q Qv s rx ry h g
  unfold dFdiv at h
  split at h
  · simp only [RepV] at rx ry
    exact ⟨_, _, rx, ry, h.1, g.here s (by simp only [RepV]) h.2⟩
  · exact h.elim
def dMod : D → D → DS → QD → Prop
  | .int i, .int j, S, Q => 0 < j ∧ Q (.int (i % j)) S
  | _, _, _, _ => False
theorem l_mod {K : PySem.W.Frag} : L2of K (rI (fun _ j => 0 < j) fun i j => .int (i % j)) dMod := by
  intro Z H S x y dx dy Q Qv s rx ry h g
  unfold dMod at h
  split at h
  · simp only [RepV] at rx ry
    exact ⟨_, _, rx, ry, h.1, g.here s (by simp only [RepV]) h.2⟩
  · exact h.elim
def dPow : D → D → DS → QD → Prop
  | .int i, .int j, S, Q => (0 ≤ j ∧ j ≤ 1000000 ∧ i.natAbs < 2 ^ 64) ∧ Q (.int (i ^ j.toNat)) S
  | _, _, _, _ => False
theorem l_pow {K : PySem.W.Frag} : L2of K (rI CPow fun i j => .int (i ^ j.toNat)) dPow := by
  intro Z H S x y dx dy Q Qv s rx ry h g
  unfold dPow at h
  split at h
  · simp only [RepV] at rx ry
    exact ⟨_, _, rx, ry, h.1, g.here s (by simp only [RepV]) h.2⟩
  · exact h.elim
/-- a text, so many times -/
def repS (s : Tx) (n : Int) : Tx := (List.replicate n.toNat s).flatten
def rMulS : R2 := fun x y H Q => ∃ (z : Str) (n : Int), x = .str z ∧ y = .int n ∧ PySem.MulOk z n ∧ Q (.str (PySem.Txt.mul z n)) H
theorem op_mulS {X : Cx} : OpR X (binaryOp .Mult) rMulS := by
  intro pins s σ H x y v u Q I rx ry h
  obtain ⟨z, n, rfl, rfl, ok, q⟩ := h
  obtain ⟨t, rfl⟩ := rx
  obtain ⟨t', rfl⟩ := ry
  exact PySem.SB.mul ok fun t2 k => ⟨.str _, H, I.tok k, ⟨t2, rfl⟩, q⟩
theorem flat_cps (x : Array Nat) : ∀ (k : Nat) (acc : Array Nat), ((List.replicate k x).foldl (· ++ ·) acc).toList = acc.toList ++ (List.replicate k x.toList).flatten
  | 0, acc => by simp
  | k + 1, acc => by
    rw [List.replicate_succ, List.foldl_cons, flat_cps x k, List.replicate_succ, List.flatten_cons, Array.toList_append, List.append_assoc]
theorem mul_tS (s : Tx) (n : Int) : PySem.Txt.mul (tS s) n = tS (repS s n) := by
  unfold PySem.Txt.mul repS
  split
  · rename_i h
    rw [show n.toNat = 0 by omega]
    rfl
  · split
    · rename_i h h2
      rcases Bool.or_eq_true_iff.mp h2 with e | e
      · have : n = 1 := by simpa using e
        subst this
        simp
      · have : s.length = 0 := by simpa [tS_length] using e
        have : s = [] := List.length_eq_zero_iff.mp this
        subst this
        have : (List.replicate n.toNat ([] : Tx)).flatten = [] := by simp
        rw [this]
    · have e := flat_cps (tS s).cps n.toNat #[]
      rw [tS_cps] at e
      unfold tS at e ⊢
      congr 1
      apply Array.ext'
      rw [e]
      simp
theorem repS_length (s : Tx) (n : Int) : (repS s n).length = s.length * n.toNat := by
  unfold repS
  induction n.toNat with
  | zero => simp
  | succ k ih => rw [List.replicate_succ, List.flatten_cons, List.length_append, ih, Nat.mul_succ]; omega
theorem repS_mem {s : Tx} {n : Int} {c : Nat} (h : c ∈ repS s n) : c ∈ s := by
  unfold repS at h
  obtain ⟨l, h1, h2⟩ := List.mem_flatten.mp h
  rw [(List.mem_replicate.mp h1).2] at h2
  exact h2
theorem mulOk_of {s : Tx} {n : Int} (hn : n ≤ 1000000) (h0 : -1000000 ≤ n) (hl : s.length * n.toNat ≤ 16777216) : PySem.MulOk (tS s) n := by
  refine ⟨?_, fun h _ => ?_, fun h _ => ?_⟩
  · simp only [Bool.or_eq_false_iff, decide_eq_false_iff_not]
    omega
  · rw [tS_length]
    have h1 : (s.length : Int) * n ≤ 16777216 := by
      have e : ((s.length * n.toNat : Nat) : Int) ≤ 16777216 := by omega
      rw [Int.natCast_mul, Int.toNat_of_nonneg (by omega)] at e
      exact e
    have h2 : (s.length : Int) ≤ (2 ^ 63 - 1) / n := by
      rw [Int.le_ediv_iff_mul_le (by omega)]
      omega
    omega
  · rw [tS_length]
    show decide (s.length * n.toNat > sizeLine) = false
    have : sizeLine = 16777216 := sizeLine_eq
    simp only [decide_eq_false_iff_not]
    omega
def dMul (live : Bool) : D → D → DS → QD → Prop
  | .int i, .int j, S, Q => ((-(2 ^ 64) < i ∧ i < 2 ^ 64) ∨ (-(2 ^ 64) < j ∧ j < 2 ^ 64)) ∧ Q (.int (i * j)) S
  | .str s, .int n, S, Q => (-1000000 ≤ n ∧ n ≤ 1000000 ∧ s.length * n.toNat ≤ 16777216) ∧ Q (.str (repS s n)) S
  | .lst xs, .int n, S, Q => (-1000000 ≤ n ∧ n ≤ 1000000 ∧ xs.length * n.toNat ≤ 16777216) ∧ mkL live (List.replicate n.toNat xs).flatten S Q
  | _, _, _, _ => False
theorem RepL.rep {K : PySem.W.Frag} {F : Hp} {ds : List D} {vs : List V} (h : RepL K F ds vs) : ∀ k : Nat, RepL K F (List.replicate k ds).flatten (List.replicate k vs).flatten
  | 0 => by simp [RepL]
  | k + 1 => by
    rw [List.replicate_succ, List.replicate_succ, List.flatten_cons, List.flatten_cons]
    exact h.app (RepL.rep h k)
abbrev rMulA : R2 := fun x y H Q => (rI CMul fun i j => .int (i * j)) x y H Q ∨ rMulS x y H Q ∨ rRep x y H Q
theorem op_mulA {X : Cx} : OpR X (binaryOp .Mult) rMulA := op_mul.or (op_mulS.or op_rep)
theorem l_mul {K : PySem.W.Frag} {live : Bool} : L2of K rMulA (dMul live) := by
  intro Z H S x y dx dy Q Qv s rx ry h g
  unfold dMul at h
  split at h
  · simp only [RepV] at rx ry
    exact .inl ⟨_, _, rx, ry, h.1, g.here s (by simp only [RepV]) h.2⟩
  · simp only [RepV] at rx ry
    obtain ⟨⟨h0, h1, h2⟩, q⟩ := h
    refine .inr (.inl ⟨_, _, rx.1, ry, mulOk_of h1 h0 h2, ?_⟩)
    rw [mul_tS]
    refine g.here s ?_ q
    simp only [RepV]
    refine ⟨trivial, ?_, fun c hc => rx.2.2 c (repS_mem hc)⟩
    rw [repS_length]
    exact h2
  · obtain ⟨⟨h0, h1, h2⟩, q⟩ := h
    obtain ⟨a, vs, e1, e2, e3⟩ := asL_ok s rx (show asL S (.lst _) = some _ from rfl)
    simp only [RepV] at ry
    refine .inr (.inr ⟨a, _, vs, e1, ry, e2, by omega, by omega, by rw [e3.length]; exact h2, g.list s (e3.rep _) q⟩)
  · exact h.elim
end DL

set_option linter.all false
set_option autoImplicit false
set_option maxHeartbeats 1000000
namespace DL
open PySem PySem.Spec PyProof.Rows L2
/-! ### equality of data -/
mutual
/-- how deep data is; 1000: no data -/
def dh : D → Nat
  | .non => 0 | .bl _ => 0 | .int _ => 0 | .str _ => 0
  | .lst ds => dhs ds + 1
  | .tup ds => dhs ds + 1
  | .dct _ => 1000 | .ins _ _ _ => 1000 | .exc _ _ _ => 1000 | .ref _ => 1000 | .scr _ => 1000
def dhs : List D → Nat
  | [] => 0
  | d :: ds => max (dh d) (dhs ds)
end
mutual
def toP : D → PyData
  | .non => .none | .bl b => .bool b | .int i => .int i | .str s => .str (tS s)
  | .lst ds => .list (toPs ds)
  | .tup ds => .tuple (toPs ds)
  | .dct _ => .none | .ins _ _ _ => .none | .exc _ _ _ => .none | .ref _ => .none | .scr _ => .none
def toPs : List D → List PyData
  | [] => []
  | d :: ds => toP d :: toPs ds
end
mutual
/-- == of data -/
def eqB : D → D → Bool
  | .non, .non => true
  | .bl a, .bl b => a == b
  | .bl a, .int j => (if a then 1 else 0) == j
  | .int i, .bl b => i == (if b then 1 else 0)
  | .int i, .int j => i == j
  | .str s, .str t => s == t
  | .lst xs, .lst ys => eqBs xs ys
  | .tup xs, .tup ys => eqBs xs ys
  | _, _ => false
def eqBs : List D → List D → Bool
  | [], [] => true
  | x :: xs, y :: ys => eqB x y && eqBs xs ys
  | _, _ => false
end
theorem beq_tS (s t : Tx) : (tS s == tS t) = (s == t) := by
  by_cases h : s = t
  · subst h; simp
  · have h2 : ¬ tS s = tS t := fun e => h (tS_inj e)
    rw [beq_eq_false_iff_ne.mpr h, beq_eq_false_iff_ne.mpr h2]
theorem le_max_l {a b c : Nat} (h : max a b ≤ c) : a ≤ c := Nat.le_trans (Nat.le_max_left _ _) h
theorem le_max_r {a b c : Nat} (h : max a b ≤ c) : b ≤ c := Nat.le_trans (Nat.le_max_right _ _) h
mutual
theorem eqv_toP : ∀ (d e : D), dh d ≤ 500 → dh e ≤ 500 → PyData.eqv (toP d) (toP e) = eqB d e
  | d, e, hd, he => by
    cases d <;> simp only [dh] at hd <;> try omega
    all_goals (cases e <;> simp only [dh] at he <;> try omega)
    all_goals simp only [toP, PyData.eqv, eqB, beq_tS]
    · rename_i xs ys; exact eqvs_toP xs ys (by omega) (by omega)
    · rename_i xs ys; exact eqvs_toP xs ys (by omega) (by omega)
theorem eqvs_toP : ∀ (ds es : List D), dhs ds ≤ 500 → dhs es ≤ 500 → PyData.eqvAll (toPs ds) (toPs es) = eqBs ds es
  | [], [], _, _ => by simp only [toPs, PyData.eqvAll, eqBs]
  | [], _ :: _, _, _ => by simp only [toPs, PyData.eqvAll, eqBs]
  | _ :: _, [], _, _ => by simp only [toPs, PyData.eqvAll, eqBs]
  | d :: ds, e :: es, hd, he => by
    simp only [dhs] at hd he
    simp only [toPs, PyData.eqvAll, eqBs]
    rw [eqv_toP d e (le_max_l hd) (le_max_l he), eqvs_toP ds es (le_max_r hd) (le_max_r he)]
end
mutual
theorem depth_toP : ∀ (d : D), dh d ≤ 500 → (toP d).depth ≤ dh d
  | d, hd => by
    cases d <;> simp only [dh] at hd <;> try omega
    all_goals simp only [toP, PyData.depth, dh, Nat.le_refl]
    · rename_i xs; have := depths_toP xs (by omega); omega
    · rename_i xs; have := depths_toP xs (by omega); omega
theorem depths_toP : ∀ (ds : List D), dhs ds ≤ 500 → PyData.depthAll (toPs ds) ≤ dhs ds
  | [], _ => by simp only [toPs, PyData.depthAll, dhs, Nat.le_refl]
  | d :: ds, hd => by
    simp only [dhs] at hd
    simp only [toPs, PyData.depthAll, dhs]
    have h1 := depth_toP d (le_max_l hd)
    have h2 := depths_toP ds (le_max_r hd)
    omega
end
section
variable {K : PySem.W.Frag} {F : Hp}
theorem strOk_tS {s : Tx} (h : TxOk s) : PyData.strOk (tS s) = true := by
  unfold PyData.strOk tS
  simp only [Array.all_eq_true_iff_forall_mem, List.mem_toArray, decide_eq_true_eq]
  exact fun c hc => h.2 c hc
mutual
theorem dp_toP : ∀ (d : D) (v : V), dh d ≤ 500 → RepV K F d v → Dp K F v (toP d) ∧ (toP d).canLay0 = true
  | d, v, hd, r => by
    cases d <;> simp only [dh] at hd <;> try omega
    · simp only [RepV] at r; subst r; simp only [toP, PyData.canLay0, and_true]; exact .non
    · simp only [RepV] at r; subst r; simp only [toP, PyData.canLay0, and_true]; exact .bl _
    · simp only [RepV] at r; subst r; simp only [toP, PyData.canLay0, and_true]; exact .int _
    · simp only [RepV] at r; obtain ⟨r, ok⟩ := r; subst r; simp only [toP, PyData.canLay0, strOk_tS ok, and_true]; exact .str _
    · rename_i xs
      simp only [RepV] at r
      obtain ⟨a, vs, h1, h2, h3⟩ := r
      obtain ⟨q1, q2⟩ := dps_toP xs vs (by omega) h3
      subst h1
      simp only [toP, PyData.canLay0]
      exact ⟨.lst (SqL.of h2) q1, q2⟩
    · rename_i xs
      simp only [RepV] at r
      obtain ⟨a, vs, h1, h2, h3⟩ := r
      obtain ⟨q1, q2⟩ := dps_toP xs vs (by omega) h3
      subst h1
      simp only [toP, PyData.canLay0]
      exact ⟨.tup h2 q1, q2⟩
theorem dps_toP : ∀ (ds : List D) (vs : List V), dhs ds ≤ 500 → RepL K F ds vs → DpAll K F vs (toPs ds) ∧ PyData.canLayAll0 (toPs ds) = true
  | [], vs, _, r => by simp only [RepL] at r; subst r; simp only [toPs, PyData.canLayAll0, and_true]; exact .nil
  | d :: ds, vs, hd, r => by
    simp only [dhs] at hd
    simp only [RepL] at r
    obtain ⟨v, w, h1, h2, h3⟩ := r
    obtain ⟨p1, p2⟩ := dp_toP d v (le_max_l hd) h2
    obtain ⟨q1, q2⟩ := dps_toP ds w (le_max_r hd) h3
    subst h1
    simp only [toPs, PyData.canLayAll0, p2, q2, Bool.and_self, and_true]
    exact .cons p1 q1
end
end
theorem seqL_up {K : PySem.W.Frag} {F F' : Hp} (e : Same F F') {a : Addr} {xs : List V} (h : SqL K F a xs) : SqL K F' a xs := e.seq h
mutual
theorem Dp_up {K : PySem.W.Frag} {F F' : Hp} (e : Same F F') : ∀ {v : V} {d : PyData}, Dp K F v d → Dp K F' v d
  | _, _, .non => .non
  | _, _, .bl b => .bl b
  | _, _, .int b => .int b
  | _, _, .str b => .str b
  | _, _, .lst h1 h2 => .lst (e.seq h1) (DpAll_up e h2)
  | _, _, .tup h1 h2 => .tup (seqT_mono e h1) (DpAll_up e h2)
theorem DpAll_up {K : PySem.W.Frag} {F F' : Hp} (e : Same F F') : ∀ {vs : List V} {ds : List PyData}, DpAll K F vs ds → DpAll K F' vs ds
  | _, _, .nil => .nil
  | _, _, .cons h1 h2 => .cons (Dp_up e h1) (DpAll_up e h2)
end
/-- a live list read as data -/
def deref (S : DS) : D → D
  | .ref a => match S a with
    | some (.lst ds) => .lst ds
    | _ => .ref a
  | d => d
theorem dp_deref {K : PySem.W.Frag} {Z H : Hp} {S : DS} {d : D} {v : V} (s : Sim K Z H S) (r : RepV K (fz Z H S) d v) (hd : dh (deref S d) ≤ 64) : Dp K H v (toP (deref S d)) ∧ SeqAt.shaped (toP (deref S d)) = true := by
  have key : ∀ e : D, dh e ≤ 64 → RepV K (fz Z H S) e v → Dp K H v (toP e) ∧ SeqAt.shaped (toP e) = true := fun e he re => by
    obtain ⟨h1, h2⟩ := dp_toP e v (by omega) re
    have h3 := depth_toP e (by omega)
    refine ⟨Dp_up fz_sub h1, ?_⟩
    unfold SeqAt.shaped
    rw [h2, Bool.true_and]
    exact decide_eq_true (by omega)
  unfold deref at hd ⊢
  split at hd
  · rename_i a
    split at hd
    · rename_i ds e
      simp only [dh] at hd
      simp only [RepV] at r
      obtain ⟨vs, h1, h2⟩ := s.cells a _ e
      obtain ⟨q1, q2⟩ := dps_toP ds vs (by omega) h2
      have h3 := depths_toP ds (by omega)
      subst r
      simp only [toP]
      refine ⟨.lst (SqL.of h1) (DpAll_up fz_sub q1), ?_⟩
      unfold SeqAt.shaped
      simp only [PyData.canLay0, PyData.depth, q2, Bool.true_and]
      exact decide_eq_true (by omega)
    · rename_i h
      simp only [dh] at hd
      omega
  · rename_i h
    cases d <;> first | exact key _ hd r | (exact absurd rfl (h _))
def dEq (neg : Bool) (x y : D) (S : DS) (Q : QD) : Prop := dh (deref S x) ≤ 64 ∧ dh (deref S y) ≤ 64 ∧ Q (.bl (if neg then !eqB (deref S x) (deref S y) else eqB (deref S x) (deref S y))) S
theorem l_eq {K : PySem.W.Frag} : L2of K (rEqD K) (dEq false) := by
  intro Z H S x y dx dy Q Qv s rx ry h g
  obtain ⟨h1, h2, q⟩ := h
  obtain ⟨a1, a2⟩ := dp_deref s rx h1
  obtain ⟨b1, b2⟩ := dp_deref s ry h2
  refine ⟨_, _, a1, b1, a2, b2, ?_⟩
  rw [eqv_toP _ _ (by omega) (by omega)]
  exact g.here s (by simp [RepV]) q
theorem l_ne {K : PySem.W.Frag} : L2of K (rNeD K) (dEq true) := by
  intro Z H S x y dx dy Q Qv s rx ry h g
  obtain ⟨h1, h2, q⟩ := h
  obtain ⟨a1, a2⟩ := dp_deref s rx h1
  obtain ⟨b1, b2⟩ := dp_deref s ry h2
  refine ⟨_, _, a1, b1, a2, b2, ?_⟩
  rw [eqv_toP _ _ (by omega) (by omega)]
  exact g.here s (by simp [RepV]) q
/-! ### order -/
inductive Ord where | lt | le | gt | ge
def Ord.op : Ord → CmpOp | .lt => .Lt | .le => .LtE | .gt => .Gt | .ge => .GtE
def ordI : Ord → Int → Int → Bool
  | .lt, i, j => decide (i < j) | .le, i, j => decide (i ≤ j) | .gt, i, j => decide (j < i) | .ge, i, j => decide (j ≤ i)
def ordS : Ord → Tx → Tx → Bool
  | .lt, s, t => decide (s < t) | .le, s, t => !decide (t < s) | .gt, s, t => decide (t < s) | .ge, s, t => !decide (s < t)
def dOrd (o : Ord) : D → D → DS → QD → Prop
  | .int i, .int j, S, Q => Q (.bl (ordI o i j)) S
  | .str s, .str t, S, Q => Q (.bl (ordS o s t)) S
  | _, _, _, _ => False
def rOrd (o : Ord) : R2 := fun x y H Q => (rI0 fun i j => .bl (ordI o i j)) x y H Q ∨ (∃ i j, x = .str i ∧ y = .str j ∧ Q (.bl (ordS o i.cps.toList j.cps.toList)) H)
theorem op_ord {X : Cx} (o : Ord) : OpR X (compareOp o.op) (rOrd o) := by
  cases o with
  | lt => exact op_lt.or op_lt_str
  | le => exact op_le.or op_le_str
  | gt => exact op_gt.or op_gt_str
  | ge => exact op_ge.or op_ge_str
theorem l_ord {K : PySem.W.Frag} (o : Ord) : L2of K (rOrd o) (dOrd o) := by
  intro Z H S x y dx dy Q Qv s rx ry h g
  unfold dOrd at h
  split at h
  · simp only [RepV] at rx ry
    exact .inl ⟨_, _, rx, ry, g.here s (by simp only [RepV]) h⟩
  · simp only [RepV] at rx ry
    refine .inr ⟨_, _, rx.1, ry.1, ?_⟩
    rw [tS_cps, tS_cps]
    exact g.here s (by simp only [RepV]) h
  · exact h.elim
/-! ### is None -/
def dIsN (neg : Bool) (x : D) (S : DS) (Q : QD) : Prop := match x with
  | .non => Q (.bl (!neg)) S
  | _ => Q (.bl neg) S
theorem rep_non {K : PySem.W.Frag} {F : Hp} {d : D} {v : V} (r : RepV K F d v) : (v = .non) ↔ d = .non := by
  cases d <;> simp only [RepV] at r
  · simp [r]
  · simp [r]
  · simp [r]
  · simp [r.1]
  · obtain ⟨a, vs, h, _⟩ := r; simp [h]
  · obtain ⟨a, vs, h, _⟩ := r; simp [h]
  · obtain ⟨a, vs, h, _⟩ := r; simp [h]
  · simp [r.1]
  · simp [r.1]
  · simp [r]
  · obtain ⟨a, h, _⟩ := r; simp [h]
theorem l_isN {K : PySem.W.Frag} {Z H : Hp} {S : DS} {x : V} {dx : D} {Q : QD} {Qv : VK} {neg : Bool} (s : Sim K Z H S) (rx : RepV K (fz Z H S) dx x) (h : dIsN neg dx S Q) (g : Got K Z H S Q Qv) :
    Qv (.bl (if neg then !decide (x = .non) else decide (x = .non))) H := by
  have e := rep_non rx
  unfold dIsN at h
  split at h
  · rw [e.mpr rfl]
    refine g.here s ?_ h
    cases neg <;> simp [RepV]
  · rename_i hn
    have e2 : ¬ x = .non := fun q => hn (e.mp q)
    refine g.here s ?_ h
    cases neg <;> simp [RepV, e2]
/-! ### truth -/
def dTru (S : DS) : D → Option Bool
  | .non => some false | .bl b => some b | .int i => some (i != 0) | .str s => some (!s.isEmpty)
  | .lst ds => some (!ds.isEmpty) | .tup ds => some (!ds.isEmpty) | .dct kvs => some (!kvs.isEmpty)
  | .scr ns => some (!ns.isEmpty)
  | .ref a => match S a with
    | some (.lst ds) => some (!ds.isEmpty)
    | some (.dct ds) => some (!ds.isEmpty)
    | _ => none
  | _ => none
theorem RepL.isEmpty {K : PySem.W.Frag} {F : Hp} {ds : List D} {vs : List V} (r : RepL K F ds vs) : vs.isEmpty = ds.isEmpty := by
  have h := r.length
  cases ds <;> cases vs <;> simp_all
theorem RepK.isEmpty {K : PySem.W.Frag} {F : Hp} {ds : List (Tx × D)} {vs : List (Key × V)} (r : RepK K F ds vs) : vs.isEmpty = ds.isEmpty := by
  cases ds with
  | nil => simp only [RepK] at r; rw [r]; rfl
  | cons kd ds =>
    obtain ⟨k, d⟩ := kd
    simp only [RepK] at r
    obtain ⟨v, w, h, _⟩ := r
    rw [h]; rfl
theorem l_tru {K : PySem.W.Frag} {Z H : Hp} {S : DS} {x : V} {dx : D} {b : Bool} (s : Sim K Z H S) (rx : RepV K (fz Z H S) dx x) (h : dTru S dx = some b) : TruV K x H b := by
  unfold dTru at h
  split at h
  · cases h; simp only [RepV] at rx; subst rx; rfl
  · cases h; simp only [RepV] at rx; subst rx; rfl
  · cases h; simp only [RepV] at rx; subst rx; rfl
  · rename_i t
    cases h; simp only [RepV] at rx; obtain ⟨rx, ok⟩ := rx; subst rx
    refine ⟨by rw [tS_length]; exact ok.1, ?_⟩
    rw [tS_length]
    cases t <;> simp
    omega
  · cases h; simp only [RepV] at rx; obtain ⟨a, vs, h1, h2, h3⟩ := rx; subst h1
    exact .inl ⟨vs, SqL.of (fz_sub _ _ h2), by rw [h3.isEmpty]⟩
  · cases h; simp only [RepV] at rx; obtain ⟨a, vs, h1, h2, h3⟩ := rx; subst h1
    exact .inr (.inl ⟨vs, seqT_mono fz_sub h2, by rw [h3.isEmpty]⟩)
  · cases h; simp only [RepV] at rx; obtain ⟨a, vs, h1, h2, h3⟩ := rx; subst h1
    exact .inr (.inr ⟨vs, fz_sub _ _ h2, by rw [h3.isEmpty]⟩)
  · rename_i ns
    cases h; simp only [RepV] at rx; obtain ⟨a, h1, h2⟩ := rx; subst h1
    exact .inl ⟨_, seqL_up fz_sub h2, by cases ns <;> rfl⟩
  · rename_i a
    split at h
    · rename_i ds e
      cases h; simp only [RepV] at rx; subst rx
      obtain ⟨vs, h1, h2⟩ := s.cells a _ e
      exact .inl ⟨vs, SqL.of h1, by rw [h2.isEmpty]⟩
    · rename_i ds e
      cases h; simp only [RepV] at rx; subst rx
      obtain ⟨vs, h1, h2⟩ := s.cells a _ e
      exact .inr (.inr ⟨vs, h1, by rw [h2.isEmpty]⟩)
    · cases h
  · cases h
end DL

set_option linter.all false
set_option autoImplicit false
set_option maxHeartbeats 1000000
namespace DL
open PySem PySem.Spec PyProof.Rows L2
/-! ### items, slices -/
/-- the items of a list, a tuple -/
def asSq (S : DS) : D → Option (List D)
  | .lst ds => some ds
  | .tup ds => some ds
  | .ref a => match S a with
    | some (.lst ds) => some ds
    | _ => none
  | _ => none
theorem asSq_ok {K : PySem.W.Frag} {Z H : Hp} {S : DS} {x : V} {d : D} {ds : List D} (s : Sim K Z H S) (r : RepV K (fz Z H S) d x) (e : asSq S d = some ds) : ∃ a vs, x = .ref a ∧ (SqL K H a vs ∨ SqT K H a vs) ∧ RepL K (fz Z H S) ds vs := by
  unfold asSq at e
  split at e
  · cases e
    simp only [RepV] at r
    obtain ⟨a, vs, h1, h2, h3⟩ := r
    exact ⟨a, vs, h1, .inl (SqL.of (fz_sub _ _ h2)), h3⟩
  · cases e
    simp only [RepV] at r
    obtain ⟨a, vs, h1, h2, h3⟩ := r
    exact ⟨a, vs, h1, .inr (seqT_mono fz_sub h2), h3⟩
  · rename_i a
    split at e
    · rename_i ds' e2
      cases e
      obtain ⟨vs, h1, h2⟩ := s.cells a _ e2
      simp only [RepV] at r
      exact ⟨a, vs, r, .inl (SqL.of h1), h2⟩
    · cases e
  · cases e
def dIdx : D → D → DS → QD → Prop
  | .str s, .int i, S, Q => ∃ c, atI s i = some c ∧ Q (.str [c]) S
  | .scr ns, .int i, S, Q => ∃ n, atI ns i = some n ∧ Q (.int n) S
  | x, .int i, S, Q => ∃ ds d, asSq S x = some ds ∧ atI ds i = some d ∧ Q d S
  | _, _, _, _ => False
theorem RepL.at {K : PySem.W.Frag} {F : Hp} {ds : List D} {vs : List V} {i : Int} {d : D} (r : RepL K F ds vs) (h : atI ds i = some d) : ∃ v, atI vs i = some v ∧ RepV K F d v := by
  unfold atI at h ⊢
  rw [r.length]
  cases e : ixN ds.length i with
  | none => rw [e] at h; cases h
  | some j =>
    rw [e] at h
    exact r.get h
theorem atI_mem {α : Type} {xs : List α} {i : Int} {x : α} (h : atI xs i = some x) : x ∈ xs := by
  unfold atI at h
  cases e : ixN xs.length i with
  | none => rw [e] at h; cases h
  | some j => rw [e] at h; exact List.mem_of_getElem? h
theorem TxOk.one {s : Tx} {c : Nat} (h : TxOk s) (hc : c ∈ s) : TxOk [c] := h.sub (by cases s <;> simp_all) (fun x hx => by rw [List.mem_singleton.mp hx]; exact hc)
theorem l_idx {K : PySem.W.Frag} : L2of K (rIx K) dIdx := by
  intro Z H S x y dx dy Q Qv s rx ry h g
  unfold dIdx at h
  split at h
  · obtain ⟨c, h1, q⟩ := h
    simp only [RepV] at rx ry
    obtain ⟨rx, ok⟩ := rx
    refine .inr (.inr ⟨_, _, c, rx, ry, by rw [tS_length]; exact ok.1, by rw [tS_cps]; exact h1, ?_⟩)
    exact g.here s (d := .str [c]) (by simp only [RepV]; exact ⟨rfl, ok.one (atI_mem h1)⟩) q
  · rename_i ns i
    obtain ⟨n, h1, q⟩ := h
    simp only [RepV] at rx ry
    obtain ⟨a, rx, hs⟩ := rx
    refine .inl ⟨a, _, _, .int n, rx, ry, seqL_up fz_sub hs, ?_, g.here s (by simp only [RepV]) q⟩
    unfold atI at h1 ⊢
    rw [List.length_map]
    cases e : ixN ns.length i with
    | none => rw [e] at h1; cases h1
    | some j =>
      rw [e] at h1
      have h1' : ns[j]? = some n := h1
      show (ns.map V.int)[j]? = _
      rw [List.getElem?_map, h1']; rfl
  · rename_i dz S Q x i _ _
    obtain ⟨ds, d, e1, e2, q⟩ := h
    simp only [RepV] at ry
    obtain ⟨a, vs, h1, h2, h3⟩ := asSq_ok s rx e1
    obtain ⟨v, h4, h5⟩ := h3.at e2
    rcases h2 with h2 | h2
    · exact .inl ⟨a, vs, _, v, h1, ry, h2, h4, g.here s h5 q⟩
    · exact .inr (.inl ⟨a, vs, _, v, h1, ry, h2, h4, g.here s h5 q⟩)
  · exact h.elim
/-- xs[lo:hi] -/
def cut {α : Type} (xs : List α) (lo hi : Option Int) : List α := (xs.drop (HT.sIx xs.length 0 lo)).take (HT.sIx xs.length xs.length hi - HT.sIx xs.length 0 lo)
theorem cut_length {α : Type} (xs : List α) (lo hi : Option Int) : (cut xs lo hi).length ≤ xs.length := by
  unfold cut
  rw [List.length_take, List.length_drop]; omega
theorem cut_mem {α : Type} {xs : List α} {lo hi : Option Int} {x : α} (h : x ∈ cut xs lo hi) : x ∈ xs := List.mem_of_mem_drop (List.mem_of_mem_take h)
theorem TxOk.cut {s : Tx} (h : TxOk s) (lo hi : Option Int) : TxOk (cut s lo hi) := h.sub (cut_length _ _ _) fun c hc => cut_mem hc
theorem cutS_tS (s : Tx) (lo hi : Option Int) : cutS (tS s) lo hi = tS (cut s lo hi) := by
  unfold cutS cut
  rw [tS_cps, tS_length]; rfl
def L3of (K : PySem.W.Frag) (r : V → Option Int → Option Int → Hp → VK → Prop) (f : D → Option Int → Option Int → DS → QD → Prop) : Prop :=
  ∀ Z H S x lo hi dx Q Qv, Sim K Z H S → RepV K (fz Z H S) dx x → f dx lo hi S Q → Got K Z H S Q Qv → r x lo hi H Qv
def dSl (live : Bool) : D → Option Int → Option Int → DS → QD → Prop
  | .str s, lo, hi, S, Q => Q (.str (cut s lo hi)) S
  | .tup ds, lo, hi, S, Q => ¬ (HT.sIx ds.length 0 lo = 0 ∧ HT.sIx ds.length ds.length hi = ds.length) ∧ Q (.tup (cut ds lo hi)) S
  | .lst ds, lo, hi, S, Q => mkL live (cut ds lo hi) S Q
  | .ref a, lo, hi, S, Q => ∃ ds, S a = some (.lst ds) ∧ mkL live (cut ds lo hi) S Q
  | _, _, _, _, _ => False
def rSlA (K : PySem.W.Frag) : V → Option Int → Option Int → Hp → VK → Prop := fun x lo hi H Q => rSlS x lo hi H Q ∨ rSlT K x lo hi H Q ∨ rSlL K x lo hi H Q
theorem sl_all {X : Cx} : SlR X (rSlA X.K) := sl_str.or (sl_tup.or sl_list)
theorem RepL.cut {K : PySem.W.Frag} {F : Hp} {ds : List D} {vs : List V} (r : RepL K F ds vs) (lo hi : Option Int) : RepL K F (cut ds lo hi) (cutV vs lo hi) := by
  unfold DL.cut cutV
  rw [r.length]
  exact (r.drop _).take _
theorem l_sl {K : PySem.W.Frag} {live : Bool} : L3of K (rSlA K) (dSl live) := by
  intro Z H S x lo hi dx Q Qv s rx h g
  unfold dSl at h
  split at h
  · simp only [RepV] at rx
    obtain ⟨rx, ok⟩ := rx
    refine .inl ⟨_, rx, by rw [tS_length]; exact ok.1, ?_⟩
    rw [cutS_tS]
    exact g.here s (by simp only [RepV]; exact ⟨trivial, ok.cut _ _⟩) h
  · obtain ⟨hn, q⟩ := h
    simp only [RepV] at rx
    obtain ⟨a, vs, h1, h2, h3⟩ := rx
    refine .inr (.inl ⟨a, vs, h1, seqT_mono fz_sub h2, by rw [h3.length]; exact hn, g.tuple s (h3.cut _ _) q⟩)
  · simp only [RepV] at rx
    obtain ⟨a, vs, h1, h2, h3⟩ := rx
    exact .inr (.inr ⟨a, vs, h1, SqL.of (fz_sub _ _ h2), g.list s (h3.cut _ _) h⟩)
  · obtain ⟨ds, e, q⟩ := h
    simp only [RepV] at rx
    obtain ⟨vs, h1, h2⟩ := s.cells _ _ e
    exact .inr (.inr ⟨_, vs, rx, SqL.of h1, g.list s (h2.cut _ _) q⟩)
  · exact h.elim
/-! ### in -/
def lookD (kvs : List (Tx × D)) (k : Tx) : Option D := (kvs.find? fun kv => decide (kv.1 = k)).map (·.2)
def putD (kvs : List (Tx × D)) (k : Tx) (v : D) : List (Tx × D) :=
  if (kvs.any fun q => decide (q.1 = k)) = true then kvs.map (fun q => if q.1 = k then (q.1, v) else q) else kvs ++ [(k, v)]
theorem look_rep {K : PySem.W.Frag} {F : Hp} {k : Tx} : ∀ {kvs : List (Tx × D)} {vs : List (Key × V)}, RepK K F kvs vs →
    (lookD kvs k = none ∧ valV vs (.inr (tS k)) = none) ∨ ∃ d v, lookD kvs k = some d ∧ valV vs (.inr (tS k)) = some v ∧ RepV K F d v
  | [], vs, h => by
    simp only [RepK] at h; subst h
    exact .inl ⟨rfl, rfl⟩
  | (k', d) :: kvs, vs, h => by
    simp only [RepK] at h
    obtain ⟨v, w, h1, h0, h2, h3⟩ := h
    subst h1
    by_cases e : k' = k
    · subst e
      exact .inr ⟨d, v, by simp [lookD], valV_pos rfl, h2⟩
    · have e2 : ¬ ((.inr (tS k') : Key) = .inr (tS k)) := fun q => e (tS_inj (Sum.inr.inj q))
      rw [valV_neg e2]
      have e3 : lookD ((k', d) :: kvs) k = lookD kvs k := by simp [lookD, List.find?_cons, e]
      rw [e3]
      exact look_rep h3
theorem any_rep {K : PySem.W.Frag} {F : Hp} {k : Tx} : ∀ {kvs : List (Tx × D)} {vs : List (Key × V)}, RepK K F kvs vs → (kvs.any fun kv => decide (kv.1 = k)) = (vs.any fun kv => decide (kv.1 = (.inr (tS k) : Key)))
  | [], vs, h => by simp only [RepK] at h; subst h; rfl
  | (k', d) :: kvs, vs, h => by
    simp only [RepK] at h
    obtain ⟨v, w, h1, h0, h2, h3⟩ := h
    subst h1
    rw [List.any_cons, List.any_cons, any_rep h3]
    congr 1
    by_cases e : k' = k
    · subst e; simp
    · have e2 : ¬ ((.inr (tS k') : Key) = .inr (tS k)) := fun q => e (tS_inj (Sum.inr.inj q))
      rw [decide_eq_false e, decide_eq_false e2]
theorem map_rep {K : PySem.W.Frag} {F : Hp} {k : Tx} {d : D} {v : V} (r : RepV K F d v) : ∀ {kvs : List (Tx × D)} {vs : List (Key × V)}, RepK K F kvs vs →
    RepK K F (kvs.map fun kv => if kv.1 = k then (kv.1, d) else kv) (vs.map fun kv => if kv.1 = (.inr (tS k) : Key) then (kv.1, v) else kv)
  | [], vs, h => by simp only [RepK] at h; subst h; simp [RepK]
  | (k', d') :: kvs, vs, h => by
    simp only [RepK] at h
    obtain ⟨v', w, h1, h0, h2, h3⟩ := h
    subst h1
    rw [List.map_cons, List.map_cons]
    have ih := map_rep (k := k) r h3
    by_cases e : k' = k
    · subst e
      simp only [if_pos]
      simp only [RepK]
      exact ⟨v, _, rfl, h0, r, ih⟩
    · have e2 : ¬ ((.inr (tS k') : Key) = .inr (tS k)) := fun q => e (tS_inj (Sum.inr.inj q))
      simp only [if_neg e, if_neg e2]
      simp only [RepK]
      exact ⟨v', _, rfl, h0, h2, ih⟩
theorem RepK.app {K : PySem.W.Frag} {F : Hp} : ∀ {kvs lvs : List (Tx × D)} {vs ws : List (Key × V)}, RepK K F kvs vs → RepK K F lvs ws → RepK K F (kvs ++ lvs) (vs ++ ws)
  | [], lvs, vs, ws, h, h' => by simp only [RepK] at h; subst h; exact h'
  | (k, d) :: kvs, lvs, vs, ws, h, h' => by
    simp only [RepK] at h
    obtain ⟨v, r, h1, h0, h2, h3⟩ := h
    subst h1
    simp only [List.cons_append, RepK]
    exact ⟨v, r ++ ws, rfl, h0, h2, RepK.app h3 h'⟩
theorem put_rep {K : PySem.W.Frag} {F : Hp} {k : Tx} {d : D} {v : V} {kvs : List (Tx × D)} {vs : List (Key × V)} (r : RepV K F d v) (hk : TxOk k) (h : RepK K F kvs vs) : RepK K F (putD kvs k d) (putK vs (.inr (tS k)) v) := by
  unfold putD putK
  rw [any_rep (k := k) h]
  split
  · exact map_rep r h
  · exact h.app (by simp only [RepK]; exact ⟨v, [], rfl, hk, r, rfl⟩)
theorem RepK.length {K : PySem.W.Frag} {F : Hp} : ∀ {kvs : List (Tx × D)} {vs : List (Key × V)}, RepK K F kvs vs → vs.length = kvs.length
  | [], vs, h => by simp only [RepK] at h; subst h; rfl
  | (k, d) :: kvs, vs, h => by
    simp only [RepK] at h
    obtain ⟨v, r, h1, h0, h2, h3⟩ := h
    subst h1
    rw [List.length_cons, List.length_cons, h3.length]
/-- a dict's pairs -/
def asK (S : DS) : D → Option (List (Tx × D))
  | .dct kvs => some kvs
  | .ref a => match S a with
    | some (.dct kvs) => some kvs
    | _ => none
  | _ => none
theorem asK_ok {K : PySem.W.Frag} {Z H : Hp} {S : DS} {x : V} {d : D} {kvs : List (Tx × D)} (s : Sim K Z H S) (r : RepV K (fz Z H S) d x) (e : asK S d = some kvs) : ∃ a vs, x = .ref a ∧ H a = some (.dK vs) ∧ RepK K (fz Z H S) kvs vs := by
  unfold asK at e
  split at e
  · cases e
    simp only [RepV] at r
    obtain ⟨a, vs, h1, h2, h3⟩ := r
    exact ⟨a, vs, h1, fz_sub _ _ h2, h3⟩
  · rename_i a
    split at e
    · rename_i kvs' e2
      cases e
      obtain ⟨vs, h1, h2⟩ := s.cells a _ e2
      simp only [RepV] at r
      exact ⟨a, vs, r, h1, h2⟩
    · cases e
  · cases e
/-- flat data -/
def flatD : D → Bool
  | .non => true | .bl _ => true | .int _ => true | .str _ => true | _ => false
theorem flat_rep {K : PySem.W.Frag} {F : Hp} {d : D} {v : V} (r : RepV K F d v) (h : flatD d = true) : flatV v = true := by
  cases d <;> simp only [flatD] at h <;> first | cases h | skip
  all_goals simp only [RepV] at r
  · subst r; rfl
  · subst r; rfl
  · subst r; rfl
  · rw [r.1]; rfl
theorem eqV_rep {K : PySem.W.Frag} {F : Hp} {d e : D} {v w : V} (r : RepV K F d v) (r' : RepV K F e w) (h : flatD d = true) (h' : flatD e = true) : eqV v w = eqB d e := by
  cases d <;> simp only [flatD] at h <;> first | cases h | skip
  all_goals (cases e <;> simp only [flatD] at h' <;> first | cases h' | skip)
  all_goals simp only [RepV] at r r'
  all_goals first | subst r | (obtain ⟨r, _⟩ := r; subst r)
  all_goals first | subst r' | (obtain ⟨r', _⟩ := r'; subst r')
  all_goals simp only [eqV, eqB, beq_tS]
theorem inV_rep {K : PySem.W.Frag} {F : Hp} {e : D} {w : V} (r' : RepV K F e w) (h' : flatD e = true) : ∀ {ds : List D} {vs : List V}, RepL K F ds vs → ds.all flatD = true → (vs.all flatV = true ∧ inV w vs = ds.any fun d => eqB d e)
  | [], vs, r, _ => by simp only [RepL] at r; subst r; exact ⟨rfl, rfl⟩
  | d :: ds, vs, r, h => by
    simp only [RepL] at r
    obtain ⟨v, t, h1, h2, h3⟩ := r
    subst h1
    rw [List.all_cons, Bool.and_eq_true] at h
    obtain ⟨i1, i2⟩ := inV_rep r' h' h3 h.2
    refine ⟨by rw [List.all_cons, flat_rep h2 h.1, i1]; rfl, ?_⟩
    unfold inV at i2 ⊢
    rw [List.any_cons, List.any_cons, i2, eqV_rep h2 r' h.1 h']
def dIn (neg : Bool) (x y : D) (S : DS) (Q : QD) : Prop := match y with
  | .str t => ∃ c, x = .str [c] ∧ Q (.bl (if neg then !decide (c ∈ t) else decide (c ∈ t))) S
  | _ => (∃ ds, asSq S y = some ds ∧ flatD x = true ∧ ds.all flatD = true ∧ Q (.bl (if neg then !(ds.any fun d => eqB d x) else ds.any fun d => eqB d x)) S) ∨
    (∃ k kvs, x = .str k ∧ asK S y = some kvs ∧ Q (.bl (if neg then !(lookD kvs k).isSome else (lookD kvs k).isSome)) S)
def rInA (K : PySem.W.Frag) (neg : Bool) : R2 := fun x y H Q => (∃ (c : Nat) (z : Str), x = .str ⟨#[c]⟩ ∧ y = .str z ∧ Q (.bl (if neg then !decide (c ∈ z.cps.toList) else decide (c ∈ z.cps.toList))) H) ∨ rIn K neg x y H Q ∨
  (∃ a o, y = .ref a ∧ DGet H a x o ∧ Q (.bl (if neg then !o.isSome else o.isSome)) H)
theorem op_inA {X : Cx} (hu : X.A.units + 1 < cLine) : OpR X (compareOp .In) (rInA X.K false) := by
  refine op_in_sign.or (op_in_seq.or ?_)
  intro pins s σ H x y v u Q I rx ry h
  obtain ⟨a, o, rfl, g, q⟩ := h
  obtain rfl : u = Value.ref a := ry
  exact d_in hu I g rx fun s' I' => ⟨.bl o.isSome, H, I', rfl, q⟩
theorem op_notInA {X : Cx} (hu : X.A.units + 1 < cLine) : OpR X (compareOp .NotIn) (rInA X.K true) := by
  refine op_notIn_sign.or (op_notIn_seq.or ?_)
  intro pins s σ H x y v u Q I rx ry h
  obtain ⟨a, o, rfl, g, q⟩ := h
  obtain rfl : u = Value.ref a := ry
  exact d_notIn hu I g rx fun s' I' => ⟨.bl (!o.isSome), H, I', rfl, q⟩
theorem l_in {K : PySem.W.Frag} {neg : Bool} : L2of K (rInA K neg) (dIn neg) := by
  intro Z H S x y dx dy Q Qv s rx ry h g
  unfold dIn at h
  split at h
  · obtain ⟨c, e, q⟩ := h
    subst e
    simp only [RepV] at rx ry
    refine .inl ⟨c, _, rx.1, ry.1, ?_⟩
    rw [tS_cps]
    exact g.here s (by simp only [RepV]) q
  · rcases h with ⟨ds, e, f1, f2, q⟩ | ⟨k, kvs, e, e2, q⟩
    · obtain ⟨a, vs, h1, h2, h3⟩ := asSq_ok s ry e
      obtain ⟨i1, i2⟩ := inV_rep rx f1 h3 f2
      refine .inr (.inl ⟨a, vs, h1, h2, flat_rep rx f1, i1, ?_⟩)
      rw [i2]
      exact g.here s (by simp only [RepV]) q
    · subst e
      obtain ⟨a, vs, h1, h2, h3⟩ := asK_ok s ry e2
      simp only [RepV] at rx
      rw [rx.1]
      have hg : DGet H a (kV (.inr (tS k))) (valV vs (.inr (tS k))) := DGet.k h2
      refine .inr (.inr ⟨a, _, h1, hg, ?_⟩)
      have e3 : (valV vs (.inr (tS k) : Key)).isSome = (lookD kvs k).isSome := by
        rcases look_rep (k := k) h3 with ⟨e1, e2⟩ | ⟨d, v, e1, e2, _⟩
        · rw [e1, e2]; rfl
        · rw [e1, e2]; rfl
      rw [e3]
      exact g.here s (by simp only [RepV]) q
end DL

set_option linter.all false
set_option autoImplicit false
set_option maxHeartbeats 1000000
namespace DL
open PySem PySem.Spec PyProof.Rows L2 TL
/-! ### texts -/
theorem joinL_append (sep : Tx) : ∀ (xs : List Tx) (y : Tx), xs ≠ [] → joinL sep (xs ++ [y]) = joinL sep xs ++ sep ++ y := by
  intro xs
  induction xs with
  | nil => intro y h; exact absurd rfl h
  | cons x xs ih =>
    intro y _
    cases xs with
    | nil => simp [joinL]
    | cons z zs =>
      have := ih y (by simp)
      simp only [List.cons_append] at this ⊢
      simp only [joinL]
      rw [this]
      simp [List.append_assoc]
theorem join_tS (sep : Tx) (xs : List Tx) : PySem.Txt.join (tS sep) (xs.map tS) = tS (joinL sep xs) := by
  rw [join_eq]
  apply ext_tl
  rw [tl_join]
  have e : (xs.map tS).map tl = xs := by
    rw [List.map_map]
    have : (tl ∘ tS) = id := by funext s; exact tS_cps s
    rw [this]; simp
  rw [e]
  show joinL (tl (tS sep)) xs = tl (tS (joinL sep xs))
  rw [show tl (tS sep) = sep from tS_cps sep, show tl (tS (joinL sep xs)) = joinL sep xs from tS_cps _]
theorem joinL_mem {sep : Tx} {c : Nat} : ∀ {xs : List Tx}, c ∈ joinL sep xs → c ∈ sep ∨ ∃ x ∈ xs, c ∈ x
  | [], h => by simp [joinL] at h
  | [x], h => .inr ⟨x, by simp, by simpa [joinL] using h⟩
  | x :: y :: r, h => by
    simp only [joinL, List.mem_append] at h
    have rec1 : c ∈ joinL sep (y :: r) → c ∈ sep ∨ ∃ z ∈ x :: y :: r, c ∈ z := fun h => by
      rcases joinL_mem h with h | ⟨z, h1, h2⟩
      · exact .inl h
      · exact .inr ⟨z, List.mem_cons_of_mem _ h1, h2⟩
    rcases h with h | h | h
    · exact .inr ⟨x, by simp, h⟩
    · exact .inl h
    · exact rec1 h
theorem joinL_length (sep : Tx) : ∀ xs : List Tx, (joinL sep xs).length ≤ (xs.map (·.length)).sum + xs.length * sep.length
  | [] => by simp [joinL]
  | [x] => by simp [joinL]
  | x :: y :: r => by
    have ih := joinL_length sep (y :: r)
    simp only [joinL, List.length_append, List.map_cons, List.sum_cons, List.length_cons] at ih ⊢
    have e1 : (r.length + 1 + 1) * sep.length = (r.length + 1) * sep.length + sep.length := by rw [Nat.add_mul, Nat.one_mul]
    omega
/-- texts -/
def asTs (ds : List D) (ts : List Tx) : Prop := ds = ts.map D.str
theorem RepL.strs {K : PySem.W.Frag} {F : Hp} : ∀ {ts : List Tx} {vs : List V}, RepL K F (ts.map D.str) vs → vs = (ts.map tS).map V.str ∧ ∀ t ∈ ts, TxOk t
  | [], vs, h => by simp only [List.map_nil, RepL] at h; subst h; simp
  | t :: ts, vs, h => by
    simp only [List.map_cons, RepL] at h
    obtain ⟨v, r, h1, h2, h3⟩ := h
    obtain ⟨i1, i2⟩ := RepL.strs h3
    simp only [RepV] at h2
    refine ⟨by rw [h1, h2.1, i1]; rfl, fun u hu => ?_⟩
    rcases List.mem_cons.mp hu with rfl | hu
    · exact h2.2
    · exact i2 u hu
def lstripT (s : Tx) : Tx := s.dropWhile (· == 32)
def rstripT (s : Tx) : Tx := (s.reverse.dropWhile (· == 32)).reverse
theorem contains32 : (tS [32]).cps.contains = fun c => c == 32 := by
  funext c
  show (#[32] : Array Nat).contains c = _
  rw [show (#[32] : Array Nat).contains c = decide (c = 32) by simp]
  by_cases h : c = 32
  · simp [h]
  · rw [decide_eq_false h, beq_eq_false_iff_ne.mpr h]

theorem drop_takeWhile {α : Type} (p : α → Bool) : ∀ l : List α, l.drop (l.takeWhile p).length = l.dropWhile p
  | [] => rfl
  | x :: l => by
    by_cases h : p x = true
    · rw [List.takeWhile_cons_of_pos h, List.dropWhile_cons_of_pos h, List.length_cons, List.drop_succ_cons, drop_takeWhile p l]
    · rw [List.takeWhile_cons_of_neg h, List.dropWhile_cons_of_neg h]; rfl
theorem lstrip_tS (s : Tx) : PySem.Txt.lstripChars (tS s) (tS [32]) = tS (lstripT s) := by
  unfold PySem.Txt.lstripChars
  rw [PyProof.Rows.stripBy_eq]
  apply ext_tl
  rw [tl_strSub]
  show ((tl (tS s)).drop _).take _ = tl (tS _)
  rw [show tl (tS s) = s from tS_cps s, show tl (tS (lstripT s)) = lstripT s from tS_cps _]
  unfold stripHi stripLo lstripT
  rw [contains32, if_pos rfl, show (tS s).cps.toList = s from tS_cps s, drop_takeWhile, tS_length]
  simp only [Bool.false_eq_true, if_false]
  apply List.take_of_length_le
  have := congrArg List.length (drop_takeWhile (fun c => c == 32) s)
  rw [List.length_drop] at this
  omega
theorem dropWhile_mem {α : Type} {p : α → Bool} {x : α} : ∀ {l : List α}, x ∈ l.dropWhile p → x ∈ l := fun {l} h => (List.dropWhile_sublist p).subset h
theorem TxOk.lstrip {s : Tx} (h : TxOk s) : TxOk (lstripT s) := h.sub (List.dropWhile_sublist _).length_le fun _ hc => dropWhile_mem hc
/-- t stands in s at i -/
def startsAt (s t : Tx) (i : Nat) : Bool := (s.drop i).take t.length == t
end DL

set_option linter.all false
set_option autoImplicit false
set_option maxHeartbeats 1000000
namespace DL
open PySem PySem.Spec PyProof.Rows L2 TL
/-! ### built-in functions -/
def LC (K : PySem.W.Frag) (r : List V → Hp → VK → Prop) (f : List D → DS → QD → Prop) : Prop :=
  ∀ Z H S xs ds Q Qv, Sim K Z H S → RepL K (fz Z H S) ds xs → f ds S Q → Got K Z H S Q Qv → r xs H Qv
theorem RepL.inv1 {K : PySem.W.Frag} {F : Hp} {d : D} {vs : List V} (h : RepL K F [d] vs) : ∃ v, vs = [v] ∧ RepV K F d v := by
  simp only [RepL] at h
  obtain ⟨v, r, h1, h2, h3⟩ := h
  subst h3
  exact ⟨v, h1, h2⟩
theorem RepL.inv2 {K : PySem.W.Frag} {F : Hp} {d e : D} {vs : List V} (h : RepL K F [d, e] vs) : ∃ v w, vs = [v, w] ∧ RepV K F d v ∧ RepV K F e w := by
  simp only [RepL] at h
  obtain ⟨v, r, h1, h2, w, r2, h3, h4, h5⟩ := h
  subst h5 h3
  exact ⟨v, w, h1, h2, h4⟩
def dLen (x : D) (S : DS) (Q : QD) : Prop := match x with
  | .str s => Q (.int s.length) S
  | .scr ns => Q (.int ns.length) S
  | _ => ∃ ds, asSq S x = some ds ∧ Q (.int ds.length) S
def bLen : List D → DS → QD → Prop
  | [x], S, Q => dLen x S Q
  | _, _, _ => False
theorem b_len {K : PySem.W.Frag} : LC K (fun xs H Q => ∃ x n, xs = [x] ∧ LenV K x H n ∧ Q (.int n) H) bLen := by
  intro Z H S xs ds Q Qv s r h g
  unfold bLen at h
  split at h
  · obtain ⟨v, e, rv⟩ := r.inv1
    unfold dLen at h
    split at h
    · simp only [RepV] at rv
      obtain ⟨rv, ok⟩ := rv
      subst rv
      refine ⟨_, _, e, ⟨by rw [tS_length]; exact ok.1, rfl⟩, ?_⟩
      rw [tS_length]
      exact g.here s (by simp only [RepV]) h
    · rename_i ns
      simp only [RepV] at rv
      obtain ⟨a, rv, hs⟩ := rv
      subst rv
      exact ⟨_, ns.length, e, .inl ⟨_, seqL_up fz_sub hs, by simp⟩, g.here s (by simp only [RepV]) h⟩
    · obtain ⟨ds, e2, q⟩ := h
      obtain ⟨a, vs, h1, h2, h3⟩ := asSq_ok s rv e2
      subst h1
      refine ⟨_, ds.length, e, ?_, g.here s (by simp only [RepV]) q⟩
      rcases h2 with h2 | h2
      · exact .inl ⟨vs, h2, h3.length.symm⟩
      · exact .inr ⟨vs, h2, h3.length.symm⟩
  · exact h.elim
def bOrd : List D → DS → QD → Prop
  | [.str [c]], S, Q => Q (.int c) S
  | _, _, _ => False
theorem b_ord {K : PySem.W.Frag} : LC K (fun xs H Q => ∃ x, xs = [.str x] ∧ x.length = 1 ∧ Q (.int (x.cps.getD 0 0 : Nat)) H) bOrd := by
  intro Z H S xs ds Q Qv s r h g
  unfold bOrd at h
  split at h
  · obtain ⟨v, e, rv⟩ := r.inv1
    simp only [RepV] at rv
    obtain ⟨rv, ok⟩ := rv
    subst rv
    exact ⟨_, e, rfl, g.here s (by simp only [RepV]; rfl) h⟩
  · exact h.elim
def bAbs : List D → DS → QD → Prop
  | [.int i], S, Q => Q (.int (if i < 0 then -i else i)) S
  | _, _, _ => False
theorem b_abs {K : PySem.W.Frag} : LC K (fun xs H Q => ∃ i, xs = [.int i] ∧ Q (.int (if i < 0 then -i else i)) H) bAbs := by
  intro Z H S xs ds Q Qv s r h g
  unfold bAbs at h
  split at h
  · obtain ⟨v, e, rv⟩ := r.inv1
    simp only [RepV] at rv
    subst rv
    exact ⟨_, e, g.here s (by simp only [RepV]) h⟩
  · exact h.elim
def bInt : List D → DS → QD → Prop
  | [.int i], S, Q => Q (.int i) S
  | [.bl b], S, Q => Q (.int (if b then 1 else 0)) S
  | [.str t], S, Q => ∃ n, PySem.intText? (tS t) = some n ∧ t.length ≤ 640 ∧ Q (.int n) S
  | _, _, _ => False
def rIntA : List V → Hp → VK → Prop := fun xs H Q => ((∃ i, xs = [.int i] ∧ Q (.int i) H) ∨ ∃ k, xs = [.bl k] ∧ Q (.int (if k then 1 else 0)) H) ∨ (∃ a n, xs = [.str a] ∧ PySem.intText? a = some n ∧ a.length ≤ 640 ∧ Q (.int n) H)
theorem call_intA {X : Cx} : CallR X (.type "int") rIntA := call_int1.or call_int_str
theorem b_int {K : PySem.W.Frag} : LC K rIntA bInt := by
  intro Z H S xs ds Q Qv s r h g
  unfold bInt at h
  split at h
  · obtain ⟨v, e, rv⟩ := r.inv1
    simp only [RepV] at rv
    subst rv
    exact .inl (.inl ⟨_, e, g.here s (by simp only [RepV]) h⟩)
  · obtain ⟨v, e, rv⟩ := r.inv1
    simp only [RepV] at rv
    subst rv
    exact .inl (.inr ⟨_, e, g.here s (by simp only [RepV]) h⟩)
  · obtain ⟨v, e, rv⟩ := r.inv1
    simp only [RepV] at rv
    obtain ⟨rv, ok⟩ := rv
    subst rv
    obtain ⟨n, h1, h2, q⟩ := h
    exact .inr ⟨_, n, e, h1, by rw [tS_length]; exact h2, g.here s (by simp only [RepV]) q⟩
  · exact h.elim
/-- a whole number in figures -/
def numT (i : Int) : Tx := (toString i).toList.map Char.toNat
theorem numT_tS (i : Int) : Str.ofString (toString i) = tS (numT i) := by
  apply ext_tl
  rw [tl_ofString]
  exact (tS_cps _).symm
theorem numT_ok (i : Int) (h : (numT i).length ≤ 1000) : TxOk (numT i) := by
  refine ⟨Nat.le_trans h (by rw [sizeLine_eq]; decide), fun c hc => ?_⟩
  unfold numT at hc
  obtain ⟨ch, _, rfl⟩ := List.mem_map.mp hc
  have h := ch.valid
  simp only [UInt32.isValidChar, Nat.isValidChar] at h
  have e : ch.toNat = ch.val.toNat := rfl
  omega
def bStr : List D → DS → QD → Prop
  | [.int i], S, Q => i.natAbs.log2 < 1920 ∧ (numT i).length ≤ 1000 ∧ Q (.str (numT i)) S
  | _, _, _ => False
theorem b_str {K : PySem.W.Frag} : LC K (fun xs H Q => ∃ i : Int, xs = [.int i] ∧ i.natAbs.log2 < 1920 ∧ Q (.str (toString i)) H) bStr := by
  intro Z H S xs ds Q Qv s r h g
  unfold bStr at h
  split at h
  · obtain ⟨v, e, rv⟩ := r.inv1
    simp only [RepV] at rv
    subst rv
    obtain ⟨h1, h2, q⟩ := h
    refine ⟨_, e, h1, ?_⟩
    rw [numT_tS]
    exact g.here s (by simp only [RepV]; exact ⟨trivial, numT_ok _ h2⟩) q
  · exact h.elim
/-- truths -/
def blsOf : List D → Option (List Bool)
  | [] => some []
  | .bl b :: r => (blsOf r).map (b :: ·)
  | _ => none
theorem RepL.bls {K : PySem.W.Frag} {F : Hp} : ∀ {ds : List D} {vs : List V} {bs : List Bool}, RepL K F ds vs → blsOf ds = some bs → vs = bs.map V.bl
  | [], vs, bs, h, e => by simp only [RepL] at h; subst h; cases e; rfl
  | d :: ds, vs, bs, h, e => by
    simp only [RepL] at h
    obtain ⟨v, r, h1, h2, h3⟩ := h
    cases d <;> try (simp only [blsOf] at e; cases e)
    rename_i b
    simp only [blsOf] at e
    cases q : blsOf ds with
    | none => rw [q] at e; cases e
    | some cs =>
      rw [q] at e
      cases e
      simp only [RepV] at h2
      rw [h1, h2, RepL.bls h3 q]; rfl
theorem blsOf_map (bs : List Bool) : blsOf (bs.map D.bl) = some bs := by
  induction bs with
  | nil => rfl
  | cons b bs ih => simp only [List.map_cons, blsOf, ih]; rfl
theorem blsOf_map' {α : Type} (f : α → Bool) (xs : List α) : blsOf (xs.map fun x => D.bl (f x)) = some (xs.map f) := by
  rw [← blsOf_map (xs.map f), List.map_map]; rfl
def bAll (isAny : Bool) : List D → DS → QD → Prop
  | [x], S, Q => ∃ ds bs, asL S x = some ds ∧ blsOf ds = some bs ∧ Q (.bl (if isAny then bs.any id else bs.all id)) S
  | _, _, _ => False
theorem b_all {K : PySem.W.Frag} : LC K (rAll K) (bAll false) := by
  intro Z H S xs ds Q Qv s r h g
  unfold bAll at h
  split at h
  · obtain ⟨v, e, rv⟩ := r.inv1
    obtain ⟨ds, bs, e1, e2, q⟩ := h
    obtain ⟨a, vs, h1, h2, h3⟩ := asL_ok s rv e1
    subst h1
    have := h3.bls e2
    subst this
    exact ⟨a, bs, e, SqL.of h2, g.here s (by simp only [RepV]; rfl) q⟩
  · exact h.elim
theorem b_any {K : PySem.W.Frag} : LC K (rAny K) (bAll true) := by
  intro Z H S xs ds Q Qv s r h g
  unfold bAll at h
  split at h
  · obtain ⟨v, e, rv⟩ := r.inv1
    obtain ⟨ds, bs, e1, e2, q⟩ := h
    obtain ⟨a, vs, h1, h2, h3⟩ := asL_ok s rv e1
    subst h1
    have := h3.bls e2
    subst this
    exact ⟨a, bs, e, SqL.of h2, g.here s (by simp only [RepV]; rfl) q⟩
  · exact h.elim
/-- list(x) -/
def bList (live : Bool) : List D → DS → QD → Prop
  | [x], S, Q => ∃ ds, asSq S x = some ds ∧ mkL live ds S Q
  | _, _, _ => False
theorem b_list {K : PySem.W.Frag} {live : Bool} : LC K (fun xs H Q => ∃ p ys, xs = [.ref p] ∧ (SqL K H p ys ∨ SqT K H p ys) ∧ ∀ l, H l = none → Q (.ref l) (upd H l (.lst ys))) (bList live) := by
  intro Z H S xs ds Q Qv s r h g
  unfold bList at h
  split at h
  · obtain ⟨v, e, rv⟩ := r.inv1
    obtain ⟨ds, e1, q⟩ := h
    obtain ⟨a, vs, h1, h2, h3⟩ := asSq_ok s rv e1
    subst h1
    exact ⟨a, vs, e, h2, g.list s h3 q⟩
  · exact h.elim
/-! ### isinstance of data -/
def tyD (S : DS) : D → Option String
  | .non => some "NoneType" | .bl _ => some "bool" | .int _ => some "int" | .str _ => some "str"
  | .lst _ => some "list" | .tup _ => some "tuple" | .dct _ => some "dict"
  | .ref a => match S a with
    | some (.lst _) => some "list"
    | some (.dct _) => some "dict"
    | _ => none
  | _ => none
theorem tyD_ok {K : PySem.W.Frag} {Z H : Hp} {S : DS} {x : V} {d : D} {t : String} (s : Sim K Z H S) (r : RepV K (fz Z H S) d x) (e : tyD S d = some t) : TyX K H x (.type t) := by
  unfold tyD at e
  split at e
  · cases e; simp only [RepV] at r; subst r; exact .base .non
  · cases e; simp only [RepV] at r; subst r; exact .base (.bl _)
  · cases e; simp only [RepV] at r; subst r; exact .base (.int _)
  · cases e; simp only [RepV] at r; rw [r.1]; exact .base (.str _)
  · cases e; simp only [RepV] at r; obtain ⟨a, vs, h1, h2, h3⟩ := r; subst h1; exact .base (.lst (fz_sub _ _ h2))
  · cases e; simp only [RepV] at r; obtain ⟨a, vs, h1, h2, h3⟩ := r; subst h1
    rcases seqT_mono fz_sub h2 with (h2 | ⟨o, h2⟩) | ⟨o, its, n, h2, h4, _⟩
    · exact .base (.tup h2)
    · exact .fTuple h2
    · exact .kTuple h2 h4
  · cases e; simp only [RepV] at r; obtain ⟨a, vs, h1, h2, h3⟩ := r; subst h1; exact .base (.dK (fz_sub _ _ h2))
  · rename_i a
    simp only [RepV] at r
    subst r
    split at e
    · rename_i ds e2
      cases e
      obtain ⟨vs, h1, h2⟩ := s.cells a _ e2
      exact .base (.lst h1)
    · rename_i ds e2
      cases e
      obtain ⟨vs, h1, h2⟩ := s.cells a _ e2
      exact .base (.dK h1)
    · cases e
  · cases e
/-- a built-in type under another -/
def subTy (t c : String) : Bool := t == c || (t == "bool" && c == "int")
theorem kit_sub : ∀ t ∈ ["NoneType", "bool", "int", "str", "list", "tuple", "dict"], ∀ c ∈ ["bool", "int", "str", "list", "tuple"], kitB t c = some (subTy t c) := by
  decide +kernel
theorem tyD_in {S : DS} {d : D} {t : String} (e : tyD S d = some t) : t ∈ ["NoneType", "bool", "int", "str", "list", "tuple", "dict"] := by
  unfold tyD at e
  split at e <;> first | (cases e; decide) | (split at e <;> first | (cases e; decide) | cases e) | cases e
/-! ### methods of lists -/
def LM (K : PySem.W.Frag) (r : V → List V → Hp → VK → Prop) (f : D → List D → DS → QD → Prop) : Prop :=
  ∀ Z H S x xs d ds Q Qv, Sim K Z H S → RepV K (fz Z H S) d x → RepL K (fz Z H S) ds xs → f d ds S Q → Got K Z H S Q Qv → r x xs H Qv
/-- a live list is changed -/
theorem Got.wlist {K : PySem.W.Frag} {Z H : Hp} {S : DS} {Q : QD} {Qv : VK} (g : Got K Z H S Q Qv) (s : Sim K Z H S) {a : Addr} {c : Cell} (e : S a = some c) {ds : List D} {vs : List V} (r : RepL K (fz Z H S) ds vs) {d : D} {v : V} (rv : RepV K (fz Z H S) d v)
    (q : Q d (S.upd a (.lst ds))) : Qv v (upd H a (.lst vs)) := by
  obtain ⟨s1, e1⟩ := s.write e (.lst vs) (.lst ds) ⟨vs, upd_same, r⟩
  exact g _ _ _ _ e1 s1 (RepV.mono e1 _ _ rv) q
def mApp : D → List D → DS → QD → Prop
  | .ref a, [y], S, Q => ∃ ds, S a = some (.lst ds) ∧ ds.length < 16777216 ∧ Q .non (S.upd a (.lst (ds ++ [y])))
  | _, _, _, _ => False
theorem live_lst {K : PySem.W.Frag} {Z H : Hp} {S : DS} {a : Addr} {ds : List D} (s : Sim K Z H S) (e : S a = some (.lst ds)) : ∃ vs, H a = some (.lst vs) ∧ RepL K (fz Z H S) ds vs := s.cells a _ e
theorem m_app {K : PySem.W.Frag} : LM K rAppend mApp := by
  intro Z H S x xs d ds Q Qv s rx rs h g
  unfold mApp at h
  split at h
  · simp only [RepV] at rx
    subst rx
    obtain ⟨y, e, ry⟩ := rs.inv1
    obtain ⟨ds, e1, hl, q⟩ := h
    obtain ⟨vs, h1, h2⟩ := live_lst s e1
    exact ⟨_, vs, y, rfl, e, h1, by rw [h2.length]; exact hl, g.wlist s e1 (h2.app (RepL.one ry)) (d := .non) (by simp only [RepV]) q⟩
  · exact h.elim
def mIns : D → List D → DS → QD → Prop
  | .ref a, [.int i, y], S, Q => ∃ ds, S a = some (.lst ds) ∧ ds.length < 16777216 ∧ 0 ≤ i ∧ i < 2 ^ 63 ∧ Q .non (S.upd a (.lst (ds.take i.toNat ++ [y] ++ ds.drop i.toNat)))
  | _, _, _, _ => False
def rInsert : V → List V → Hp → VK → Prop := fun x vs H Q => ∃ (l : Addr) (xs : List V) (i : Int) (y : V), x = .ref l ∧ vs = [.int i, y] ∧ H l = some (.lst xs) ∧ xs.length < sizeLine ∧ 0 ≤ i ∧ i < 2 ^ 63 ∧
    Q .non (upd H l (.lst (xs.take i.toNat ++ [y] ++ xs.drop i.toNat)))
theorem m_ins {K : PySem.W.Frag} : LM K rInsert mIns := by
  intro Z H S x xs d ds Q Qv s rx rs h g
  unfold mIns at h
  split at h
  · simp only [RepV] at rx
    subst rx
    obtain ⟨i', y, e, ri, ry⟩ := rs.inv2
    simp only [RepV] at ri
    subst ri
    obtain ⟨ds, e1, hl, h0, h63, q⟩ := h
    obtain ⟨vs, h1, h2⟩ := live_lst s e1
    exact ⟨_, vs, _, y, rfl, e, h1, by rw [h2.length]; exact hl, h0, h63, g.wlist s e1 (((h2.take _).app (RepL.one ry)).app (h2.drop _)) (d := .non) (by simp only [RepV]) q⟩
  · exact h.elim
def mExt : D → List D → DS → QD → Prop
  | .ref a, [y], S, Q => ∃ ds es, S a = some (.lst ds) ∧ asL S y = some es ∧ ds.length + es.length ≤ 16777216 ∧ Q .non (S.upd a (.lst (ds ++ es)))
  | _, _, _, _ => False
theorem m_ext {K : PySem.W.Frag} : LM K rExtend mExt := by
  intro Z H S x xs d ds Q Qv s rx rs h g
  unfold mExt at h
  split at h
  · simp only [RepV] at rx
    subst rx
    obtain ⟨y, e, ry⟩ := rs.inv1
    obtain ⟨ds, es, e1, e2, hl, q⟩ := h
    obtain ⟨vs, h1, h2⟩ := live_lst s e1
    obtain ⟨b, ws, k1, k2, k3⟩ := asL_ok s ry e2
    subst k1
    exact ⟨_, b, vs, ws, rfl, e, h1, k2, by rw [h2.length, k3.length]; exact hl, g.wlist s e1 (h2.app k3) (d := .non) (by simp only [RepV]) q⟩
  · exact h.elim
theorem RepL.dropLast {K : PySem.W.Frag} {F : Hp} {ds : List D} {vs : List V} (h : RepL K F ds vs) : RepL K F ds.dropLast vs.dropLast := by
  rw [List.dropLast_eq_take, List.dropLast_eq_take, h.length]
  exact h.take _
def mPop : D → List D → DS → QD → Prop
  | .ref a, [], S, Q => ∃ ds y, S a = some (.lst ds) ∧ ds[ds.length - 1]? = some y ∧ Q y (S.upd a (.lst ds.dropLast))
  | _, _, _, _ => False
theorem m_pop {K : PySem.W.Frag} : LM K rPop mPop := by
  intro Z H S x xs d ds Q Qv s rx rs h g
  unfold mPop at h
  split at h
  · simp only [RepV] at rx
    subst rx
    simp only [RepL] at rs
    obtain ⟨ds, y, e1, hy, q⟩ := h
    obtain ⟨vs, h1, h2⟩ := live_lst s e1
    obtain ⟨v, k1, k2⟩ := h2.get hy
    exact ⟨_, vs, v, rfl, rs, h1, by rw [h2.length]; exact k1, g.wlist s e1 h2.dropLast k2 q⟩
  · exact h.elim
theorem RepL.erase {K : PySem.W.Frag} {F : Hp} {ds : List D} {vs : List V} (h : RepL K F ds vs) (k : Nat) : RepL K F (ds.eraseIdx k) (vs.eraseIdx k) := by
  rw [List.eraseIdx_eq_take_drop_succ, List.eraseIdx_eq_take_drop_succ]
  exact (h.take _).app (h.drop _)
def mPopAt : D → List D → DS → QD → Prop
  | .ref a, [.int i], S, Q => ∃ ds y, S a = some (.lst ds) ∧ 0 ≤ i ∧ i < 2 ^ 63 ∧ ds[i.toNat]? = some y ∧ Q y (S.upd a (.lst (ds.eraseIdx i.toNat)))
  | _, _, _, _ => False
theorem m_popAt {K : PySem.W.Frag} : LM K rPopAt mPopAt := by
  intro Z H S x xs d ds Q Qv s rx rs h g
  unfold mPopAt at h
  split at h
  · rename_i _ _ a i
    simp only [RepV] at rx
    subst rx
    obtain ⟨i', e, ri⟩ := rs.inv1
    simp only [RepV] at ri
    subst ri
    obtain ⟨ds, y, e1, h0, h63, hy, q⟩ := h
    obtain ⟨vs, h1, h2⟩ := live_lst s e1
    obtain ⟨v, k1, k2⟩ := h2.get hy
    have hlt : i.toNat < vs.length := (List.getElem?_eq_some_iff.mp k1).1
    refine ⟨_, vs, i, i.toNat, v, rfl, e, h1, by omega, h63, ?_, k1, g.wlist s e1 (h2.erase _) k2 q⟩
    have e2 := ixN_seq (n := vs.length) (i := i) (j := i.toNat) (by unfold ixN; rw [if_pos h0, if_pos (by omega)])
    exact e2.1
  · exact h.elim
/-- the first place of flat data -/
def mIdx : D → List D → DS → QD → Prop
  | x, [y], S, Q => ∃ ds j, asL S x = some ds ∧ flatD y = true ∧ ds.all flatD = true ∧ ds.findIdx? (fun d => eqB d y) = some j ∧ Q (.int (j : Nat)) S
  | _, _, _, _ => False
theorem m_idx {K : PySem.W.Frag} : LM K (rIndex K) mIdx := by
  intro Z H S x xs d ds Q Qv s rx rs h g
  unfold mIdx at h
  split at h
  · obtain ⟨y, e, ry⟩ := rs.inv1
    obtain ⟨ds, j, e1, f1, f2, hj, q⟩ := h
    obtain ⟨a, vs, h1, h2, h3⟩ := asL_ok s rx e1
    obtain ⟨i1, i2⟩ := inV_rep ry f1 h3 f2
    obtain ⟨hlt, hp, hn⟩ := List.findIdx?_eq_some_iff_getElem.mp hj
    obtain ⟨z, k1, k2⟩ := h3.get (List.getElem?_eq_getElem hlt)
    refine ⟨a, vs, y, j, z, h1, e, SqL.of h2, flat_rep ry f1, i1, k1, ?_, fun m z' hm hz => ?_, g.here s (by simp only [RepV]) q⟩
    · rw [eqV_rep k2 ry (List.all_eq_true.mp f2 _ (List.getElem_mem hlt)) f1]
      exact hp
    · have hm2 : m < ds.length := by omega
      obtain ⟨z2, k3, k4⟩ := h3.get (List.getElem?_eq_getElem hm2)
      rw [hz] at k3
      cases k3
      rw [eqV_rep k4 ry (List.all_eq_true.mp f2 _ (List.getElem_mem hm2)) f1]
      exact Bool.eq_false_iff.mpr (hn m hm)
  · exact h.elim
def rCountF (K : PySem.W.Frag) : V → List V → Hp → VK → Prop := fun x xs H Q => ∃ (p : Addr) (ys : List V) (y : V), x = .ref p ∧ xs = [y] ∧ SqL K H p ys ∧ flatV y = true ∧ ys.all flatV = true ∧ Q (.int (ys.countP (fun z => eqV z y) : Nat)) H
theorem countP_eqU {x : V} : ∀ {xs : List V} {us : List Value}, Vals xs us → xs.all flatV = true → us.countP (eqU x) = xs.countP fun y => eqV y x
  | [], us, r, _ => by cases r; rfl
  | y :: ys, us, r, h => by
    cases r with
    | cons r1 r2 =>
      rw [List.all_cons, Bool.and_eq_true] at h
      rw [List.countP_cons, List.countP_cons, countP_eqU r2 h.2, eqU_of r1 h.1]
theorem mt_countF {X : Cx} : MtR X "list.count" (rCountF X.K) := by
  intro pn s0 sv H x xs v us Q I rx rxs hw
  obtain ⟨p, ys, y, rfl, rfl, hs, fy, fys, q⟩ := hw
  cases rx
  obtain ⟨u, rfl, ru⟩ := Vals.one rxs
  obtain ⟨its, rv, ⟨ob, n, ho, hc, _, hd⟩, _⟩ := I.list hs
  obtain ⟨cls, dd, data, sl⟩ := ob
  cases hc
  cases hd
  have seen : (its.toArray.toList.countP (eqU y) : Nat) = ys.countP (fun z => eqV z y) := by rw [show its.toArray.toList = its by simp, countP_eqU rv fys]
  refine call_meets PySem.F.slot_list_count ⟨_, ho, rfl⟩
    PySem.F.entry_list_count (PySem.F.args_list_count_2 _ _) (SeqAt.list_countAt p its.toArray n dd sl u (eqU y)) ?_
  refine ⟨ho, fun w hw => mem_eqAt ru fy rv fys w (by simpa using hw), .int (ys.countP (fun z => eqV z y) : Nat), H, I.tok _, ⟨s0.toks, ?_⟩, q⟩
  exact congrArg (fun m : Nat => Value.int (m : Int) s0.toks) seen
def mCount : D → List D → DS → QD → Prop
  | x, [y], S, Q => ∃ ds, asL S x = some ds ∧ flatD y = true ∧ ds.all flatD = true ∧ Q (.int (ds.countP (fun d => eqB d y) : Nat)) S
  | _, _, _, _ => False
theorem countP_rep {K : PySem.W.Frag} {F : Hp} {e : D} {w : V} (r' : RepV K F e w) (h' : flatD e = true) : ∀ {ds : List D} {vs : List V}, RepL K F ds vs → ds.all flatD = true → vs.countP (fun z => eqV z w) = ds.countP fun d => eqB d e
  | [], vs, r, _ => by simp only [RepL] at r; subst r; rfl
  | d :: ds, vs, r, h => by
    simp only [RepL] at r
    obtain ⟨v, t, h1, h2, h3⟩ := r
    subst h1
    rw [List.all_cons, Bool.and_eq_true] at h
    rw [List.countP_cons, List.countP_cons, countP_rep r' h' h3 h.2, eqV_rep h2 r' h.1 h']
theorem m_count {K : PySem.W.Frag} : LM K (rCountF K) mCount := by
  intro Z H S x xs d ds Q Qv s rx rs h g
  unfold mCount at h
  split at h
  · obtain ⟨y, e, ry⟩ := rs.inv1
    obtain ⟨ds, e1, f1, f2, q⟩ := h
    obtain ⟨a, vs, h1, h2, h3⟩ := asL_ok s rx e1
    obtain ⟨i1, i2⟩ := inV_rep ry f1 h3 f2
    refine ⟨a, vs, y, h1, e, SqL.of h2, flat_rep ry f1, i1, ?_⟩
    rw [countP_rep ry f1 h3 f2]
    exact g.here s (by simp only [RepV]) q
  · exact h.elim
/-! ### methods of texts -/
def mJoin : D → List D → DS → QD → Prop
  | .str a, [x], S, Q => ∃ ts, asSq S x = some (ts.map D.str) ∧ (ts.map (·.length)).sum + ts.length * a.length ≤ 16777216 ∧ Q (.str (joinL a ts)) S
  | _, _, _, _ => False
def rJoin (K : PySem.W.Frag) : V → List V → Hp → VK → Prop := fun x xs H Q => ∃ a p, ∃ ys : List Str, x = .str a ∧ xs = [.ref p] ∧ (SqL K H p (ys.map V.str) ∨ SqT K H p (ys.map V.str)) ∧
    (ys.map (·.length)).sum + ys.length * a.length ≤ 16777216 ∧ Q (.str (PySem.Txt.join a ys)) H
theorem m_join {K : PySem.W.Frag} : LM K (rJoin K) mJoin := by
  intro Z H S x xs d ds Q Qv s rx rs h g
  unfold mJoin at h
  split at h
  · rename_i _ _ a x1
    simp only [RepV] at rx
    obtain ⟨y, e, ry⟩ := rs.inv1
    obtain ⟨ts, e1, hl, q⟩ := h
    obtain ⟨p, vs, h1, h2, h3⟩ := asSq_ok s ry e1
    obtain ⟨k1, k2⟩ := h3.strs
    subst k1 h1
    refine ⟨_, p, ts.map tS, rx.1, e, h2, ?_, ?_⟩
    · rw [List.map_map, List.length_map, tS_length]
      have : ((fun x : Str => x.length) ∘ tS) = fun t => t.length := by funext t; exact tS_length t
      rw [this]
      exact hl
    · rw [join_tS]
      refine g.here s ?_ q
      simp only [RepV]
      refine ⟨trivial, ?_, fun c hc => ?_⟩
      · rw [sizeLine_eq]
        exact Nat.le_trans (joinL_length a ts) hl
      · rcases joinL_mem hc with hc | ⟨t, ht, hc⟩
        · exact rx.2.2 c hc
        · exact (k2 t ht).2 c hc
  · exact h.elim
def mLstrip : D → List D → DS → QD → Prop
  | .str a, [.str [32]], S, Q => Q (.str (lstripT a)) S
  | _, _, _, _ => False
theorem m_lstrip {K : PySem.W.Frag} : LM K (fun x xs H Q => ∃ a b, x = .str a ∧ xs = [.str b] ∧ a.length ≤ sizeLine ∧ Q (.str (PySem.Txt.lstripChars a b)) H) mLstrip := by
  intro Z H S x xs d ds Q Qv s rx rs h g
  unfold mLstrip at h
  split at h
  · obtain ⟨y, e, ry⟩ := rs.inv1
    simp only [RepV] at rx ry
    obtain ⟨rx, ok⟩ := rx
    refine ⟨_, _, rx, by rw [e, ry.1], by rw [tS_length]; exact ok.1, ?_⟩
    rw [lstrip_tS]
    exact g.here s (by simp only [RepV]; exact ⟨trivial, ok.lstrip⟩) h
  · exact h.elim
theorem starts3_tS (s t : Tx) (i : Nat) (h : i ≤ s.length) : PySem.Txt.startswith3 (tS s) (tS t) (i : Int) = startsAt s t i := by
  unfold PySem.Txt.startswith3 startsAt
  have e0 : fromIndex (tS s).length (i : Int) = i := by
    unfold fromIndex
    rw [if_neg (by omega)]
    omega
  rw [e0, tS_length, tS_length]
  unfold Builtin.Str.subAt
  rw [tS_length]
  have e1 : ((tS s).cps.extract i (i + t.length) == (tS t).cps) = ((s.drop i).take t.length == t) := by
    unfold tS
    simp only [List.extract_toArray, List.extract_eq_take_drop]
    rw [show i + t.length - i = t.length by omega]
    by_cases h : (s.drop i).take t.length = t
    · rw [h]; simp
    · rw [beq_eq_false_iff_ne.mpr h]
      exact beq_eq_false_iff_ne.mpr fun q => h (by simpa using congrArg Array.toList q)
  rw [e1]
  by_cases hl : i + t.length ≤ s.length
  · rw [decide_eq_true hl, Bool.true_and]
  · rw [decide_eq_false hl, Bool.false_and]
    symm
    apply beq_eq_false_iff_ne.mpr
    intro q
    have := congrArg List.length q
    rw [List.length_take, List.length_drop] at this
    omega
def mStarts2 : D → List D → DS → QD → Prop
  | .str a, [.str b, .int i], S, Q => 0 ≤ i ∧ i ≤ a.length ∧ Q (.bl (startsAt a b i.toNat)) S
  | _, _, _, _ => False
theorem m_starts2 {K : PySem.W.Frag} : LM K (fun x xs H Q => ∃ (a b : Str) (i : Int), x = .str a ∧ xs = [.str b, .int i] ∧ Q (.bl (PySem.Txt.startswith3 a b i)) H) mStarts2 := by
  intro Z H S x xs d ds Q Qv s rx rs h g
  unfold mStarts2 at h
  split at h
  · rename_i _ _ a b i
    obtain ⟨y, z, e, ry, rz⟩ := rs.inv2
    simp only [RepV] at rx ry rz
    obtain ⟨h0, h1, q⟩ := h
    refine ⟨_, _, i, rx.1, by rw [e, ry.1, rz], ?_⟩
    have e2 := starts3_tS a b i.toNat (by omega)
    rw [Int.toNat_of_nonneg h0] at e2
    rw [e2]
    exact g.here s (by simp only [RepV]) q
  · exact h.elim
end DL

set_option linter.all false
set_option autoImplicit false
set_option maxHeartbeats 1000000
namespace DL
open PySem PySem.Spec PyProof.Rows L2 TL
/-! ### the small language -/
inductive BOp where | add (live : Bool) | sub | mul (live : Bool) | fdiv | mod | pow
inductive COp where | eq | ne | lt | le | gt | ge | inn | nin
inductive SM where | join | lstrip | starts2
inductive LMt where | append | insert | extend | pop | popAt | index | count
inductive Bi where | len | ord | abs | int | str | all | any | list (live : Bool)
inductive ItK where | seq | range1 | range2
inductive XTg where | name (i : Nat) | tup (is : List Nat)
inductive XE where
  | var (i : Nat)
  | cN | cB (b : Bool) | cI (i : Int) | cS (s : Tx)
  | glob (x : String)
  | bin (o : BOp) (a b : XE)
  | neg (a : XE)
  | not (a : XE)
  | and (l : List XE) | or (l : List XE)
  | cmp (o : COp) (a b : XE)
  | isN (neg : Bool) (a : XE)
  | chain (o o' : COp) (a b c : XE)
  | ite (c a b : XE)
  | lst (live : Bool) (es : List XE) | tup (es : List XE)
  | idx (a b : XE)
  | sl (live : Bool) (a : XE) (lo hi : Option XE)
  | comp (live : Bool) (tg : XTg) (k : ItK) (es : List XE) (elt : XE) (cond : Option XE)
  | call (f : String) (es : List XE)
  | bi (b : Bi) (es : List XE)
  | sm (m : SM) (o : XE) (es : List XE)
  | lm (m : LMt) (o : XE) (es : List XE)
  | om (C m : String) (o : XE) (es : List XE)
  | new (C : String) (es : List XE)
  | fld (o : XE) (f : String)
  | xfld (o : XE) (f : String)
  | isin (o : XE) (T : String)
  | isex (o : XE) (T : String)
  | dnew
  | dix (o k : XE)
  | gIn (neg : Bool) (k : XE) (x : String) | gIx (x : String) (k : XE)
  | rep (o : XE) (c : Nat) (z : Tx)
  | qadd (q : Tx) (r : XE)
inductive XT where
  | name (i : Nat) | tup (is : List Nat) | attr (o : XE) (f : String) | sub (o i : XE) | dsub (o i : XE)
inductive XS where
  | asg (t : XT) (e : XE)
  | par (is : List Nat) (es : List XE)
  | ex (e : XE)
  | ret (e : Option XE)
  | ite (c : XE) (a b : List XS)
  | whl (c : XE) (b : List XS)
  | forr (t : XTg) (k : ItK) (es : List XE) (b : List XS)
  | rais (C : String) (es : List XE)
  | tryx (b : List XS) (C : String) (e : Option Nat) (suite : List XS)
  | cont | pass
  /-- nothing in the text: a slot's live list is frozen -/
  | frz (i : Nat)
/-! ### what is known of the program -/
structure Exn where
  cls : String
  fs : List (String × D)
abbrev QE := Exn → DS → Prop
abbrev DSp := List D → DS → QD → QE → Prop
structure Gam where
  fn : String → Option DSp
  gv : String → Option D
  mt : String → String → Option DSp
  ini : String → Option DSp
  fl : String → String → Bool
  gd : String → Option (List (Tx × Tx))
  /-- the fields of refusals -/
  fx : String → String → Bool
abbrev St0 := List (Option D)
/-! ### its readings -/
/-- the items that are walked -/
def itemsOf : ItK → List D → DS → Option (List D)
  | .seq, [.str s], _ => some (s.map fun c => .str [c])
  | .seq, [x], S => asSq S x
  | .range1, [.int n], _ => some ((List.range n.toNat).map fun i => .int (Int.ofNat i))
  | .range2, [.int a, .int b], _ => some ((List.range (b - a).toNat).map fun i => .int (a + Int.ofNat i))
  | _, _, _ => none
/-- what is asked of the ends of a range -/
def itOk : ItK → List D → Prop
  | .range1, [.int n] => -(2 ^ 62) ≤ n ∧ n < 2 ^ 62
  | .range2, [.int a, .int b] => -(2 ^ 62) ≤ a ∧ a < 2 ^ 62 ∧ -(2 ^ 62) ≤ b ∧ b < 2 ^ 62
  | _, _ => True
def setS (σ : St0) : List Nat → List D → St0
  | i :: is, d :: ds => setS (σ.set i (some d)) is ds
  | _, _ => σ
def wipeS (σ : St0) : List Nat → St0
  | [] => σ
  | i :: is => (wipeS σ is).set i none
def XTg.slots : XTg → List Nat
  | .name i => [i]
  | .tup is => is
def bindT (S : DS) (t : XTg) (d : D) (σ : St0) (K : St0 → Prop) : Prop := match t with
  | .name i => K (σ.set i (some d))
  | .tup is => ∃ ds, asSq S d = some ds ∧ ds.length = is.length ∧ K (setS σ is ds)
def compD (stay : DS → Prop) (f : D → DS → (Option D → DS → Prop) → Prop) : List D → DS → (List D → DS → Prop) → Prop
  | [], S, K => stay S ∧ K [] S
  | x :: xs, S, K => stay S ∧ f x S fun o S' => compD stay f xs S' fun outs S'' => K (match o with
    | some d => d :: outs
    | none => outs) S''
structure DEnds where
  nx : St0 → DS → Prop
  rt : QD
  bk : St0 → DS → Prop
  ct : St0 → DS → Prop
  ex : Exn → St0 → DS → Prop
def forD (stay : DS → Prop) (f : D → (St0 → DS → Prop) → St0 → DS → Prop) (nx : St0 → DS → Prop) : List D → St0 → DS → Prop
  | [], σ, S => stay S ∧ nx σ S
  | x :: xs, σ, S => stay S ∧ f x (forD stay f nx xs) σ S
def whlD (c : St0 → DS → (Bool → DS → Prop) → Prop) (b : (St0 → DS → Prop) → St0 → DS → Prop) (nx : St0 → DS → Prop) (σ : St0) (S : DS) : Prop :=
  ∃ W : Nat → St0 → DS → Prop, (∃ m, W m σ S) ∧ ∀ m σ S, W m σ S → c σ S fun k S1 => if k = true then b (fun σ' S' => ∃ m', m' < m ∧ W m' σ' S') σ S1 else nx σ S1
def binD : BOp → D → D → DS → QD → Prop
  | .add l => dAdd l | .sub => dSub | .mul l => dMul l | .fdiv => dFdiv | .mod => dMod | .pow => dPow
def cmpD : COp → D → D → DS → QD → Prop
  | .eq => dEq false | .ne => dEq true | .lt => dOrd .lt | .le => dOrd .le | .gt => dOrd .gt | .ge => dOrd .ge | .inn => dIn false | .nin => dIn true
def biD : Bi → List D → DS → QD → Prop
  | .len => bLen | .ord => bOrd | .abs => bAbs | .int => bInt | .str => bStr | .all => bAll false | .any => bAll true | .list l => bList l
def smD : SM → D → List D → DS → QD → Prop
  | .join => mJoin | .lstrip => mLstrip | .starts2 => mStarts2
def lmD : LMt → D → List D → DS → QD → Prop
  | .append => mApp | .insert => mIns | .extend => mExt | .pop => mPop | .popAt => mPopAt | .index => mIdx | .count => mCount
def insOf (S : DS) : D → Option (String × List (String × D))
  | .ins _ c fs => some (c, fs)
  | .ref a => match S a with
    | some (.ins c fs) => some (c, fs)
    | _ => none
  | _ => none
def putFD (f : String) (v : D) : List (String × D) → List (String × D)
  | [] => [(f, v)]
  | (g, x) :: r => if g = f then (g, v) :: r else (g, x) :: putFD f v r
/-- classes of refusals: what is one of what -/
def subEx (c T : String) : Bool := c == T || T == "SettingError" || T == "ValueError"
def lookG (kvs : List (Tx × Tx)) (k : Tx) : Option Tx := (kvs.find? fun kv => decide (kv.1 = k)).map (·.2)
def repl1 (c : Nat) (z : Tx) (s : Tx) : Tx := s.flatMap fun x => if x = c then z else [x]
/-! ### readings of parts -/
abbrev RV := St0 → DS → QD → QE → Prop
abbrev RT := St0 → DS → (Bool → DS → Prop) → QE → Prop
abbrev RVs := St0 → DS → (List D → DS → Prop) → QE → Prop
def rTru (v : RV) : RT := fun σ S Q E => v σ S (fun d S1 => ∃ t, dTru S1 d = some t ∧ Q t S1) E
def rBl (v : RV) : RT := fun σ S Q E => v σ S (fun d S1 => ∃ t, d = .bl t ∧ Q t S1) E
def rVar (i : Nat) : RV := fun σ S Q _ => match σ[i]? with
  | some (some d) => Q d S
  | _ => False
def rC (d : D) : RV := fun _ S Q _ => Q d S
def rOf (o : Option D) : RV := fun _ S Q _ => match o with
  | some d => Q d S
  | none => False
def r1 (a : RV) (f : D → DS → QD → Prop) : RV := fun σ S Q E => a σ S (fun x S1 => f x S1 Q) E
def r2 (a b : RV) (f : D → D → DS → QD → Prop) : RV := fun σ S Q E => a σ S (fun x S1 => b σ S1 (fun y S2 => f x y S2 Q) E) E
def dNeg (x : D) (S : DS) (Q : QD) : Prop := match x with
  | .int i => Q (.int (-i)) S
  | _ => False
def dNot (x : D) (S : DS) (Q : QD) : Prop := ∃ b, dTru S x = some b ∧ Q (.bl (!b)) S
def rChain (o o' : COp) (a b c : RV) : RV := fun σ S Q E => a σ S (fun x S1 => b σ S1 (fun y S2 => cmpD o x y S2 fun k S3 => ∃ t, k = .bl t ∧
      if t = true then c σ S3 (fun z S4 => cmpD o' y z S4 Q) E else Q (.bl false) S3) E) E
def rIte (c : RT) (a b : RV) : RV := fun σ S Q E => c σ S (fun t S1 => if t = true then a σ S1 Q E else b σ S1 Q E) E
def rNil : RVs := fun _ S Q _ => Q [] S
def rCons (a : RV) (as : RVs) : RVs := fun σ S Q E => a σ S (fun d S1 => as σ S1 (fun ds S2 => Q (d :: ds) S2) E) E
def rS (as : RVs) (f : List D → DS → QD → QE → Prop) : RV := fun σ S Q E => as σ S (fun ds S1 => f ds S1 Q E) E
def rSl (live : Bool) (a : RV) (lo hi : Option RV) : RV := fun σ S Q E => a σ S (fun x S1 => match lo, hi with
  | none, none => dSl live x none none S1 Q
  | some l, none => l σ S1 (fun y S2 => ∃ i, y = .int i ∧ dSl live x (some i) none S2 Q) E
  | none, some h => h σ S1 (fun z S2 => ∃ j, z = .int j ∧ dSl live x none (some j) S2 Q) E
  | some l, some h => l σ S1 (fun y S2 => ∃ i, y = .int i ∧ h σ S2 (fun z S3 => ∃ j, z = .int j ∧ dSl live x (some i) (some j) S3 Q) E) E) E
def E0 : QE := fun _ _ => False
def bodyC (tg : XTg) (elt : RV) (cond : Option RT) (σ : St0) (d : D) (S2 : DS) (C : Option D → DS → Prop) : Prop := bindT S2 tg d (wipeS σ tg.slots) fun σ' => match cond with
        | none => elt σ' S2 (fun y S4 => C (some y) S4) E0
        | some c => c σ' S2 (fun b S3 => if b = true then elt σ' S3 (fun y S4 => C (some y) S4) E0 else C none S3) E0
def rComp (live : Bool) (tg : XTg) (k : ItK) (es : RVs) (elt : RV) (cond : Option RT) : RV := fun σ S Q E => es σ S (fun ds S1 => ∃ items, itemsOf k ds S1 = some items ∧ itOk k ds ∧ items.length ≤ 16777216 ∧
      compD (fun S' => itemsOf k ds S' = some items) (bodyC tg elt cond σ) items S1 (fun outs S2 => mkL live outs S2 Q)) E
/-- a method's call: the receiver's test, then the arguments -/
def rM (o : RV) (ok : DS → D → Prop) (es : RVs) (f : D → List D → DS → QD → QE → Prop) : RV := fun σ S Q E => o σ S (fun x S1 => ok S1 x ∧ es σ S1 (fun ds S2 => f x ds S2 Q E) E) E
def rDnew : RV := fun _ S Q _ => ∀ a, S a = none → Q (.ref a) (S.upd a (.dct []))
def rAndV : List RV → RV
  | [] => fun _ _ _ _ => False
  | [a] => a
  | a :: b :: l => fun σ S Q E => a σ S (fun d S1 => ∃ t, d = .bl t ∧ if t = true then rAndV (b :: l) σ S1 Q E else Q (.bl false) S1) E
def rOrV : List RV → RV
  | [] => fun _ _ _ _ => False
  | [a] => a
  | a :: b :: l => fun σ S Q E => a σ S (fun d S1 => ∃ t, d = .bl t ∧ if t = true then Q (.bl true) S1 else rOrV (b :: l) σ S1 Q E) E
def rAndT : List RT → RT
  | [] => fun _ _ _ _ => False
  | [a] => a
  | a :: b :: l => fun σ S Q E => a σ S (fun t S1 => if t = true then rAndT (b :: l) σ S1 Q E else Q false S1) E
def rOrT : List RT → RT
  | [] => fun _ _ _ _ => False
  | [a] => a
  | a :: b :: l => fun σ S Q E => a σ S (fun t S1 => if t = true then Q true S1 else rOrT (b :: l) σ S1 Q E) E
def rNotT (a : RT) : RT := fun σ S Q E => a σ S (fun b S1 => Q (!b) S1) E
def rFn (o : Option DSp) (as : RVs) : RV := match o with
  | some sp => rS as sp
  | none => fun _ _ _ _ => False
def newD (sp : DSp) (C : String) : List D → DS → QD → QE → Prop := fun ds S Q E => ∀ a, S a = none → sp (.ref a :: ds) (S.upd a (.ins C [])) (fun v S2 => v = .non ∧ Q (.ref a) S2) E
def rNew (o : Option DSp) (C : String) (as : RVs) : RV := match o with
  | some sp => rS as (newD sp C)
  | none => fun _ _ _ _ => False
def lstD (live : Bool) (ds : List D) (S : DS) (Q : QD) (_ : QE) : Prop := ds.length ≤ 16777216 ∧ mkL live ds S Q
def tupD (ds : List D) (S : DS) (Q : QD) (_ : QE) : Prop := ds.length ≤ 16777216 ∧ Q (.tup ds) S
def isStr (_ : DS) (x : D) : Prop := ∃ s, x = .str s
def isLst (S : DS) (x : D) : Prop := ∃ ds, asL S x = some ds
def isIns (C m : String) (S : DS) (x : D) : Prop := ∃ fs, insOf S x = some (C, fs) ∧ fs.lookup m = none
def rMt (o : Option DSp) (C m : String) (x : RV) (as : RVs) : RV := match o with
  | some sp => rM x (isIns C m) as (fun x ds => sp (x :: ds))
  | none => fun _ _ _ _ => False
def fldD (Γ : Gam) (f : String) (x : D) (S : DS) (Q : QD) : Prop := ∃ c fs v, insOf S x = some (c, fs) ∧ Γ.fl c f = true ∧ fs.lookup f = some v ∧ Q v S
def xfldD (Γ : Gam) (f : String) (x : D) (S : DS) (Q : QD) : Prop := match x with
  | .exc _ c fs => Γ.fx c f = true ∧ ∃ v, fs.lookup f = some v ∧ Q v S
  | _ => False
def isinD (T : String) (x : D) (S : DS) (Q : QD) : Prop := ∃ t, tyD S x = some t ∧ Q (.bl (subTy t T)) S
def exNames : List String := ["BadValue", "BadPath", "NoPath", "Twice", "WrongKind", "BadWish", "Ring", "BadFill", "BadDeed", "Nothing", "Fault"]
def exAll : List String := "SettingError" :: exNames
def isexD (T : String) (x : D) (S : DS) (Q : QD) : Prop := match x with
  | .exc _ c _ => exNames.contains c = true ∧ Q (.bl (subEx c T)) S
  | _ => False
def dixD (x y : D) (S : DS) (Q : QD) : Prop := ∃ kvs t v, asK S x = some kvs ∧ y = .str t ∧ lookD kvs t = some v ∧ Q v S
def rG (o : Option (List (Tx × Tx))) (f : List (Tx × Tx) → D → DS → QD → Prop) (k : RV) : RV := match o with
  | some l => r1 k (f l)
  | none => fun _ _ _ _ => False
def gInD (n : Bool) (l : List (Tx × Tx)) (y : D) (S : DS) (Q : QD) : Prop := match y with
  | .str t => Q (.bl (if n then !(lookG l t).isSome else (lookG l t).isSome)) S
  | _ => False
def gIxD (l : List (Tx × Tx)) (y : D) (S : DS) (Q : QD) : Prop := match y with
  | .str t => ∃ z, lookG l t = some z ∧ Q (.str z) S
  | _ => False
def repD (c : Nat) (z : Tx) (x : D) (S : DS) (Q : QD) : Prop := ∃ s, x = .str s ∧ s.length + (s.length + 1) * z.length ≤ 16777216 ∧ Q (.str (repl1 c z s)) S
section
variable (Γ : Gam)
abbrev noE (f : List D → DS → QD → Prop) : List D → DS → QD → QE → Prop := fun ds S Q _ => f ds S Q
abbrev noE1 (f : D → List D → DS → QD → Prop) : D → List D → DS → QD → QE → Prop := fun x ds S Q _ => f x ds S Q
mutual
/-- an expression read: as a value, as a test -/
def rd : XE → RV × RT
  | .var i => (rVar i, rTru (rVar i))
  | .cN => (rC .non, rTru (rC .non))
  | .cB b => (rC (.bl b), rTru (rC (.bl b)))
  | .cI i => (rC (.int i), rTru (rC (.int i)))
  | .cS s => (rC (.str s), rTru (rC (.str s)))
  | .glob x => (rOf (Γ.gv x), rTru (rOf (Γ.gv x)))
  | .bin o a b => (r2 (rd a).1 (rd b).1 (binD o), rTru (r2 (rd a).1 (rd b).1 (binD o)))
  | .neg a => (r1 (rd a).1 dNeg, rTru (r1 (rd a).1 dNeg))
  | .not a => (r1 (rd a).1 dNot, rNotT (rd a).2)
  | .and l => (rAndV ((rds l).map (·.1)), rAndT ((rds l).map (·.2)))
  | .or l => (rOrV ((rds l).map (·.1)), rOrT ((rds l).map (·.2)))
  | .cmp o a b => (r2 (rd a).1 (rd b).1 (cmpD o), rBl (r2 (rd a).1 (rd b).1 (cmpD o)))
  | .isN n a => (r1 (rd a).1 (dIsN n), rBl (r1 (rd a).1 (dIsN n)))
  | .chain o o' a b c => (rChain o o' (rd a).1 (rd b).1 (rd c).1, rBl (rChain o o' (rd a).1 (rd b).1 (rd c).1))
  | .ite c a b => (rIte (rd c).2 (rd a).1 (rd b).1, fun _ _ _ _ => False)
  | .lst live es => (rS (rdL (rds es)) (lstD live), rTru (rS (rdL (rds es)) (lstD live)))
  | .tup es => (rS (rdL (rds es)) tupD, rTru (rS (rdL (rds es)) tupD))
  | .idx a b => (r2 (rd a).1 (rd b).1 dIdx, rTru (r2 (rd a).1 (rd b).1 dIdx))
  | .sl live a lo hi => (rSl live (rd a).1 ((rdo lo).map (·.1)) ((rdo hi).map (·.1)), rTru (rSl live (rd a).1 ((rdo lo).map (·.1)) ((rdo hi).map (·.1))))
  | .comp live tg k es elt cond => (rComp live tg k (rdL (rds es)) (rd elt).1 ((rdo cond).map (·.2)), rTru (rComp live tg k (rdL (rds es)) (rd elt).1 ((rdo cond).map (·.2))))
  | .call f es => (rFn (Γ.fn f) (rdL (rds es)), rTru (rFn (Γ.fn f) (rdL (rds es))))
  | .bi b es => (rS (rdL (rds es)) (noE (biD b)), rTru (rS (rdL (rds es)) (noE (biD b))))
  | .sm m o es => (rM (rd o).1 isStr (rdL (rds es)) (noE1 (smD m)), rTru (rM (rd o).1 isStr (rdL (rds es)) (noE1 (smD m))))
  | .lm m o es => (rM (rd o).1 isLst (rdL (rds es)) (noE1 (lmD m)), rTru (rM (rd o).1 isLst (rdL (rds es)) (noE1 (lmD m))))
  | .om C m o es => (rMt (Γ.mt C m) C m (rd o).1 (rdL (rds es)), rTru (rMt (Γ.mt C m) C m (rd o).1 (rdL (rds es))))
  | .new C es => (rNew (Γ.ini C) C (rdL (rds es)), rTru (rNew (Γ.ini C) C (rdL (rds es))))
  | .fld o f => (r1 (rd o).1 (fldD Γ f), rTru (r1 (rd o).1 (fldD Γ f)))
  | .xfld o f => (r1 (rd o).1 (xfldD Γ f), rTru (r1 (rd o).1 (xfldD Γ f)))
  | .isin o T => (r1 (rd o).1 (isinD T), rTru (r1 (rd o).1 (isinD T)))
  | .isex o T => (r1 (rd o).1 (isexD T), rTru (r1 (rd o).1 (isexD T)))
  | .dnew => (rDnew, rTru rDnew)
  | .dix o k => (r2 (rd o).1 (rd k).1 dixD, rTru (r2 (rd o).1 (rd k).1 dixD))
  | .gIn n k x => (rG (Γ.gd x) (gInD n) (rd k).1, rBl (rG (Γ.gd x) (gInD n) (rd k).1))
  | .gIx x k => (rG (Γ.gd x) gIxD (rd k).1, rTru (rG (Γ.gd x) gIxD (rd k).1))
  | .rep o c z => (r1 (rd o).1 (repD c z), rTru (r1 (rd o).1 (repD c z)))
  | .qadd q r => (r2 (rC (.str q)) (rd r).1 (dAdd false), rTru (r2 (rC (.str q)) (rd r).1 (dAdd false)))
def rds : List XE → List (RV × RT)
  | [] => []
  | e :: es => rd e :: rds es
def rdo : Option XE → Option (RV × RT)
  | none => none
  | some e => some (rd e)
def rdL : List (RV × RT) → RVs
  | [] => rNil
  | a :: l => rCons a.1 (rdL l)
end
end
end DL

set_option linter.all false
set_option autoImplicit false
set_option maxHeartbeats 1000000
namespace DL
open PySem PySem.Spec PyProof.Rows L2 TL
/-! ### statements read -/
abbrev RS := DEnds → St0 → DS → Prop
def sSet (e : RV) (i : Nat) : RS := fun D σ S => e σ S (fun d S1 => D.nx (σ.set i (some d)) S1) (fun x S1 => D.ex x σ S1)
def sTup (e : RV) (is : List Nat) : RS := fun D σ S => e σ S (fun d S1 => ∃ ds, asSq S1 d = some ds ∧ ds.length = is.length ∧ D.nx (setS σ is ds) S1) (fun x S1 => D.ex x σ S1)
def sAttr (Γ : Gam) (e o : RV) (f : String) : RS := fun D σ S => e σ S (fun d S1 => o σ S1 (fun x S2 => ∃ a c fs, x = .ref a ∧ S2 a = some (.ins c fs) ∧ Γ.fl c f = true ∧ fs.length < 1000 ∧ D.nx σ (S2.upd a (.ins c (putFD f d fs)))) (fun x S1 => D.ex x σ S1)) (fun x S1 => D.ex x σ S1)
def sSub (e o i : RV) : RS := fun D σ S => e σ S (fun d S1 => o σ S1 (fun x S2 => i σ S2 (fun y S3 => ∃ a ds k, x = .ref a ∧ y = .int k ∧ S3 a = some (.lst ds) ∧ 0 ≤ k ∧ k < ds.length ∧ D.nx σ (S3.upd a (.lst (ds.set k.toNat d)))) (fun x S1 => D.ex x σ S1)) (fun x S1 => D.ex x σ S1)) (fun x S1 => D.ex x σ S1)
def sDsub (e o i : RV) : RS := fun D σ S => e σ S (fun d S1 => o σ S1 (fun x S2 => i σ S2 (fun y S3 => ∃ a kvs t, x = .ref a ∧ y = .str t ∧ S3 a = some (.dct kvs) ∧ kvs.length < 16777216 ∧ D.nx σ (S3.upd a (.dct (putD kvs t d)))) (fun x S1 => D.ex x σ S1)) (fun x S1 => D.ex x σ S1)) (fun x S1 => D.ex x σ S1)
def sPar (is : List Nat) (es : RVs) : RS := fun D σ S => es σ S (fun ds S1 => ds.length = is.length ∧ D.nx (setS σ is ds) S1) (fun x S1 => D.ex x σ S1)
def sEx (e : RV) : RS := fun D σ S => e σ S (fun _ S1 => D.nx σ S1) (fun x S1 => D.ex x σ S1)
def sRet (e : RV) : RS := fun D σ S => e σ S D.rt (fun x S1 => D.ex x σ S1)
def sRetN : RS := fun D _ S => D.rt .non S
def sIte (c : RT) (a b : RS) : RS := fun D σ S => c σ S (fun t S1 => if t = true then a D σ S1 else b D σ S1) (fun x S1 => D.ex x σ S1)
def DEnds.lp (D : DEnds) (nxt : St0 → DS → Prop) : DEnds := ⟨nxt, D.rt, D.nx, nxt, D.ex⟩
def sWhl (c : RT) (b : RS) : RS := fun D σ S => whlD (fun σ S K => c σ S K (fun x S1 => D.ex x σ S1)) (fun nxt => b (D.lp nxt)) D.nx σ S
def sFor (tg : XTg) (k : ItK) (es : RVs) (b : RS) : RS := fun D σ S => es σ S (fun ds S1 => ∃ items, itemsOf k ds S1 = some items ∧ itOk k ds ∧
  forD (fun S' => itemsOf k ds S' = some items) (fun d nxt σ1 S2 => bindT S2 tg d σ1 fun σ2 => b (D.lp nxt) σ2 S2) D.nx items σ S1) (fun x S1 => D.ex x σ S1)
/-- one word raised -/
def sRais1 (C : String) (e : RV) : RS := fun D σ S => e σ S (fun d S1 => (∃ s, d = .str s) ∧ C ∈ exNames ∧ C ≠ "Fault" ∧ D.ex ⟨C, []⟩ σ S1) (fun x S1 => D.ex x σ S1)
def sNever : RS := fun _ _ _ => False
def DEnds.gone (D : DEnds) (i : Nat) : DEnds := ⟨fun σ S => D.nx (σ.set i none) S, D.rt, fun σ S => D.bk (σ.set i none) S, fun σ S => D.ct (σ.set i none) S, fun _ _ _ => False⟩
def DEnds.noex (D : DEnds) : DEnds := ⟨D.nx, D.rt, D.bk, D.ct, fun _ _ _ => False⟩
def exTry (C : String) (i : Option Nat) (suite : RS) (D : DEnds) (x : Exn) (σ1 : St0) (S1 : DS) : Prop := if subEx x.cls C = true then (match i with
    | some i => ∀ a, S1 a = none → suite (D.gone i) (σ1.set i (some (.exc a x.cls x.fs))) S1
    | none => suite D.noex σ1 S1) else D.ex x σ1 S1
def sTry (b : RS) (C : String) (i : Option Nat) (suite : RS) : RS := fun D σ S => b ⟨D.nx, D.rt, D.bk, D.ct, exTry C i suite D⟩ σ S
def sNx : RS := fun D σ S => D.nx σ S
def sCt : RS := fun D σ S => D.ct σ S
def sFrz (i : Nat) : RS := fun D σ S => ∃ a ds, σ[i]? = some (some (.ref a)) ∧ S a = some (.lst ds) ∧ D.nx (σ.set i (some (.lst ds))) (S.del a)
def sSeq (a b : RS) : RS := fun D σ S => a ⟨b D, D.rt, D.bk, D.ct, D.ex⟩ σ S
section
variable (Γ : Gam)
mutual
def rdS : XS → RS
  | .asg t e => match t with
    | .name i => sSet (rd Γ e).1 i
    | .tup is => sTup (rd Γ e).1 is
    | .attr o f => sAttr Γ (rd Γ e).1 (rd Γ o).1 f
    | .sub o i => sSub (rd Γ e).1 (rd Γ o).1 (rd Γ i).1
    | .dsub o i => sDsub (rd Γ e).1 (rd Γ o).1 (rd Γ i).1
  | .par is es => sPar is (rdL Γ (rds Γ es))
  | .ex e => sEx (rd Γ e).1
  | .ret (some e) => sRet (rd Γ e).1
  | .ret none => sRetN
  | .ite c a b => sIte (rd Γ c).2 (rdSs a) (rdSs b)
  | .whl c b => sWhl (rd Γ c).2 (rdSs b)
  | .forr t k es b => sFor t k (rdL Γ (rds Γ es)) (rdSs b)
  | .rais C es => match es with
    | [e] => sRais1 C (rd Γ e).1
    | _ => sNever
  | .tryx b C i suite => sTry (rdSs b) C i (rdSs suite)
  | .cont => sCt
  | .pass => sNx
  | .frz i => sFrz i
def rdSs : List XS → RS
  | [] => sNx
  | s :: r => sSeq (rdS s) (rdSs r)
end
end
/-! ### the text against the small language -/
def isLoc (k : Option NameKind) : Bool := match k with
  | some .local => true
  | some .cell => true
  | _ => false
def isVis (k : Option NameKind) : Bool := match k with
  | some .local => true
  | some .cell => true
  | some .free => true
  | _ => false
def isGl (k : Option NameKind) : Bool := match k with
  | some .globalImplicit => true
  | _ => false
def plainN (x : Str) : Bool := !(x == ("__debug__" : Str)) && (!(x == ("__classdict__" : Str)) && !(x == ("__name__" : Str)))
def BOp.ok : BOp → Operator → Bool
  | .add _, .Add => true | .sub, .Sub => true | .mul _, .Mult => true | .fdiv, .FloorDiv => true | .mod, .Mod => true | .pow, .Pow => true
  | _, _ => false
def COp.ok : COp → CmpOp → Bool
  | .eq, .Eq => true | .ne, .NotEq => true | .lt, .Lt => true | .le, .LtE => true | .gt, .Gt => true | .ge, .GtE => true | .inn, .In => true | .nin, .NotIn => true
  | _, _ => false
def COp.chainOk : COp → Bool
  | .lt => true | .le => true | .gt => true | .ge => true | _ => false
def SM.name : SM → String
  | .join => "join" | .lstrip => "lstrip" | .starts2 => "startswith"
def SM.ar : SM → Nat
  | .join => 1 | .lstrip => 1 | .starts2 => 2
def LMt.name : LMt → String
  | .append => "append" | .insert => "insert" | .extend => "extend" | .pop => "pop" | .popAt => "pop" | .index => "index" | .count => "count"
def LMt.ar : LMt → Nat
  | .append => 1 | .insert => 2 | .extend => 1 | .pop => 0 | .popAt => 1 | .index => 1 | .count => 1
def Bi.name : Bi → String
  | .len => "len" | .ord => "ord" | .abs => "abs" | .int => "int" | .str => "str" | .all => "all" | .any => "any" | .list _ => "list"
def noSet : Expr → Bool
  | .Set _ _ _ => false
  | _ => true
def noSlice : Expr → Bool
  | .Slice _ _ _ _ => false
  | _ => true
def tgN (N : List Str) (sc : Scope) (i : Nat) : Expr → Bool
  | .Name x _ => decide (N[i]? = some x) && isLoc (sc.names.lookup x)
  | _ => false
def tgNs (N : List Str) (sc : Scope) : List Nat → List Expr → Bool
  | [], [] => true
  | i :: is, e :: es => tgN N sc i e && tgNs N sc is es
  | _, _ => false
def tgB (N : List Str) (sc : Scope) : XTg → Expr → Bool
  | .name i, e => tgN N sc i e
  | .tup is, .Tuple ps _ _ => tgNs N sc is ps
  | _, _ => false
/-- a comprehension's own names and their places -/
def ownOf (N : List Str) (tg : XTg) : List (Str × Nat) := tg.slots.map fun i => (N.getD i Str.empty, i)
def glB (sc : Scope) (x : Str) (f : String) : Bool := decide (x = Str.ofString f) && (isGl (sc.names.lookup x) && plainN x)
def okTx (q : Tx) : Bool := decide (q.length ≤ 1000) && q.all fun c => decide (c < 1000)
mutual
/-- calm: nothing is handled where this stands -/
def chkE (N : List Str) (calm : Bool) (sc : Scope) : XE → Expr → Bool
  | .var i, .Name x _ => decide (N[i]? = some x) && (isVis (sc.names.lookup x) && plainN x)
  | .cN, .Constant .none _ _ => true
  | .cB b, .Constant (.bool c) _ _ => b == c
  | .cI i, .Constant (.int j) _ _ => decide (i = j)
  | .cS s, .Constant (.str x) _ _ => decide (x = tS s) && (decide (s.length ≤ 1000) && s.all fun c => decide (c < 1000))
  | .glob f, .Name x _ => glB sc x f
  | .bin o a b, .BinOp p q r _ => o.ok q && (chkE N calm sc a p && chkE N calm sc b r)
  | .neg a, .UnaryOp .USub p _ => chkE N calm sc a p
  | .not a, .UnaryOp .Not p _ => chkE N calm sc a p
  | .and l, .BoolOp .And ps _ => !l.isEmpty && chkEs N calm sc l ps
  | .or l, .BoolOp .Or ps _ => !l.isEmpty && chkEs N calm sc l ps
  | .cmp o a b, .Compare p [q] [r] _ => o.ok q && (noSet r && (chkE N calm sc a p && chkE N calm sc b r))
  | .isN n a, .Compare p [q] [.Constant .none _ _] _ => (match n, q with
    | false, .Is => true
    | true, .IsNot => true
    | _, _ => false) && chkE N calm sc a p
  | .chain o o' a b c, .Compare p [q, q'] [r, t] _ => o.ok q && (o'.ok q' && (o.chainOk && (o'.chainOk && (noSet r && (noSet t && (chkE N calm sc a p && (chkE N calm sc b r && chkE N calm sc c t)))))))
  | .ite c a b, .IfExp p q r _ => chkE N calm sc c p && (chkE N calm sc a q && chkE N calm sc b r)
  | .lst _ es, .List ps _ => chkEs N calm sc es ps
  | .tup es, .Tuple ps _ _ => chkEs N calm sc es ps
  | .idx a b, .Subscript p q _ => noSlice q && (chkE N calm sc a p && chkE N calm sc b q)
  | .sl _ a lo hi, .Subscript p (.Slice l h none _) _ => chkE N calm sc a p && (chkO N calm sc lo l && chkO N calm sc hi h)
  | .comp _ tg k es elt cond, .ListComp q [⟨t, it, ifs, 0⟩] s _ => calm && (chkI N calm sc k es it && (blkC N sc s (ownOf N tg) && (tgB N s tg t &&
      (chkE N calm (relS s sc) elt q && chkC N calm (relS s sc) cond ifs))))
  | .call f es, .Call (.Name x _) ps [] _ => calm && (!ps.isEmpty && (glB sc x f && chkEs N calm sc es ps))
  | .bi b es, .Call (.Name x _) ps [] _ => calm && (!ps.isEmpty && (glB sc x b.name && chkEs N calm sc es ps))
  | .sm m o es, .Call (.Attribute p x ap) ps [] cp => decide (x = Str.ofString m.name) && (ap.endLine == cp.line && (decide (es.length = m.ar) && (chkE N calm sc o p && chkEs N calm sc es ps)))
  | .lm m o es, .Call (.Attribute p x ap) ps [] cp => decide (x = Str.ofString m.name) && (ap.endLine == cp.line && (decide (es.length = m.ar) && (chkE N calm sc o p && chkEs N calm sc es ps)))
  | .om _ m o es, .Call (.Attribute p x ap) ps [] cp => calm && (decide (x = Str.ofString m) && (ap.endLine == cp.line && (decide (ps.length < 20) && (chkE N calm sc o p && chkEs N calm sc es ps))))
  | .new C es, .Call (.Name x _) ps [] _ => calm && (!ps.isEmpty && (glB sc x C && chkEs N calm sc es ps))
  | .fld o f, .Attribute p x _ => decide (x = Str.ofString f) && chkE N calm sc o p
  | .xfld o f, .Attribute p x _ => decide (x = Str.ofString f) && chkE N calm sc o p
  | .isin o T, .Call (.Name x _) [p, .Name y _] [] _ => glB sc x "isinstance" && (glB sc y T && (["bool", "int", "str", "list", "tuple"].contains T && chkE N calm sc o p))
  | .isex o T, .Call (.Name x _) [p, .Name y _] [] _ => glB sc x "isinstance" && (glB sc y T && ((exAll.contains T || T == "ValueError") && chkE N calm sc o p))
  | .dnew, .Dict [] [] _ => true
  | .dix o k, .Subscript p q _ => noSlice q && (chkE N calm sc o p && chkE N calm sc k q)
  | .gIn n k x, .Compare p [q] [.Name y _] _ => (match n, q with
    | false, .In => true
    | true, .NotIn => true
    | _, _ => false) && (glB sc y x && chkE N calm sc k p)
  | .gIx x k, .Subscript (.Name y _) q _ => glB sc y x && (noSlice q && chkE N calm sc k q)
  | .qadd q r, .BinOp (.Constant (.str x) _ _) .Add p _ => decide (x = tS q) && (okTx q && chkR N calm sc r p)
  | _, _ => false
/-- texts replaced, where a text was made before -/
def chkR (N : List Str) (calm : Bool) (sc : Scope) : XE → Expr → Bool
  | .rep o c z, .Call (.Attribute p x ap) [.Constant (.str a) _ _, .Constant (.str b) _ _] [] cp => decide (x = Str.ofString "replace") && (ap.endLine == cp.line && (decide (a = tS [c]) && (decide (b = tS z) && (okTx z && (decide ([c] ≠ z) && (chkR N calm sc o p || chkE N calm sc o p))))))
  | _, _ => false
def chkEs (N : List Str) (calm : Bool) (sc : Scope) : List XE → List Expr → Bool
  | [], [] => true
  | x :: xs, e :: es => chkE N calm sc x e && chkEs N calm sc xs es
  | _, _ => false
def chkO (N : List Str) (calm : Bool) (sc : Scope) : Option XE → Option Expr → Bool
  | none, none => true
  | some x, some e => chkE N calm sc x e
  | _, _ => false
def chkC (N : List Str) (calm : Bool) (sc : Scope) : Option XE → List Expr → Bool
  | none, [] => true
  | some x, [e] => chkE N calm sc x e
  | _, _ => false
/-- what is walked -/
def chkI (N : List Str) (calm : Bool) (sc : Scope) (k : ItK) : List XE → Expr → Bool
  | [x], e => (match k with
    | .seq => noSet e && chkE N calm sc x e
    | .range1 => (match e with
      | .Call (.Name f _) [p] [] _ => glB sc f "range" && chkE N calm sc x p
      | _ => false)
    | .range2 => false)
  | [x, y], e => (match k, e with
    | .range2, .Call (.Name f _) [p, q] [] _ => glB sc f "range" && (chkE N calm sc x p && chkE N calm sc y q)
    | _, _ => false)
  | _, _ => false
end
def noComp : Expr → Bool
  | .ListComp _ _ _ _ => false
  | .SetComp _ _ _ _ => false
  | .DictComp _ _ _ _ _ => false
  | _ => true
def lcFree (x : Str) : Expr → Bool
  | .ListComp _ _ s _ => !(s.names.any fun (n, k) => n == x && (k == .local || k == .cell))
  | _ => false
mutual
def chkS (N : List Str) (calm : Bool) (sc : Scope) : XS → Stmt → Bool
  | .asg (.name i) e, .Assign [.Name x px] p pos => decide (N[i]? = some x) && (isLoc (sc.names.lookup x) && (chkE N calm sc e p && (noComp p || (decide (sc.names.lookup x = some .local) && (px.line == p.pos.line && lcFree x p)) || decide (sc.names.lookup x = some .cell))))
  | .asg (.tup is) e, .Assign [t] p _ => calm && (tgB N sc (.tup is) t && (noComp p && ((match p with
      | .Tuple _ _ _ => false
      | _ => true) && chkE N calm sc e p)))
  | .asg (.attr o f) e, .Assign [.Attribute q x _] p _ => decide (x = Str.ofString f) && (noComp p && (chkE N calm sc o q && chkE N calm sc e p))
  | .asg (.sub o i) e, .Assign [.Subscript q r _] p _ => noSlice r && (noComp p && (chkE N calm sc o q && (chkE N calm sc i r && chkE N calm sc e p)))
  | .asg (.dsub o i) e, .Assign [.Subscript q r _] p _ => noSlice r && (noComp p && (chkE N calm sc o q && (chkE N calm sc i r && chkE N calm sc e p)))
  | .ex e, .Expr p _ => noComp p && chkE N calm sc e p
  | .ret (some e), .Return (some p) _ => chkE N calm sc e p
  | .ret none, .Return none _ => true
  | .ite c a b, .If p q r _ => chkE N calm sc c p && (chkSs N calm sc a q && chkSs N calm sc b r)
  | .whl c b, .While p q [] _ => calm && (chkE N calm sc c p && chkSs N calm sc b q)
  | .forr t k es b, .For tg it q [] _ => calm && (tgB N sc t tg && (chkI N calm sc k es it && chkSs N calm sc b q))
  | .rais C es, .Raise (some (.Call (.Name x _) ps [] _)) none _ => calm && (glB sc x C && (decide (C ∈ exNames ∧ C ≠ "Fault") && (!ps.isEmpty && chkEs N calm sc es ps)))
  | .tryx b C i su, .Try q [.ExceptHandler (some (.Name x _)) n r _] [] [] _ => calm && (glB sc x C && (exAll.contains C && (chkSs N calm sc b q && (chkSs N false sc su r && (!r.isEmpty && (match i, n with
      | some i, some n => decide (N[i]? = some n) && decide (sc.names.lookup n = some .local)
      | none, none => true
      | _, _ => false))))))
  | .cont, .Continue _ => true
  | .pass, .Pass _ => true
  | _, _ => false
def chkSs (N : List Str) (calm : Bool) (sc : Scope) : List XS → List Stmt → Bool
  | [], [] => true
  | .frz _ :: xs, ss => chkSs N calm sc xs ss
  | x :: xs, s :: ss => chkS N calm sc x s && chkSs N calm sc xs ss
  | _, _ => false
end
end DL

set_option linter.all false
set_option autoImplicit false
set_option maxHeartbeats 1000000
namespace DL
open PySem PySem.Spec PyProof.Rows L2 TL
/-! ### the readings as the hand layer's -/
abbrev StV : Type := L2.St
def Sts (K : PySem.W.Frag) (F : Hp) (σ : St0) (σV : StV) : Prop := σ.length = List.length σV ∧ ∀ (i : Nat) (d : D), σ[i]? = some (some d) → ∃ v : V, σV[i]? = some (some v) ∧ RepV K F d v
theorem Sts.mono {K : PySem.W.Frag} {F F' : Hp} {σ : St0} {σV : StV} (h : Sts K F σ σV) (e : Same F F') : Sts K F' σ σV := ⟨h.1, fun i d q =>
  let ⟨v, h1, h2⟩ := h.2 i d q
  ⟨v, h1, RepV.mono e d v h2⟩⟩
/-- an exception's class and its own dict -/
def ExR (K : PySem.W.Frag) (F : Hp) (x : Exn) (cls : Value) (d : Option Addr) : Prop :=
  cls = .ref (He.ga K (Str.ofString x.cls)) ∧ x.cls ∈ exNames ∧ ((x.fs = [] ∧ d = none) ∨ ∃ dd vs, d = some dd ∧ F dd = some (.xd vs) ∧ RepF K F x.fs vs)
theorem ExR.mono {K : PySem.W.Frag} {F F' : Hp} {x : Exn} {cls : Value} {d : Option Addr} (h : ExR K F x cls d) (e : Same F F') : ExR K F' x cls d := by
  obtain ⟨h1, h0, h2⟩ := h
  refine ⟨h1, h0, ?_⟩
  rcases h2 with h2 | ⟨dd, vs, h2, h3, h4⟩
  · exact .inl h2
  · exact .inr ⟨dd, vs, h2, e _ _ h3, RepF.mono e _ _ h4⟩
def GotE (K : PySem.W.Frag) (Z H : Hp) (S : DS) (E : QE) (W : XK) : Prop :=
  ∀ x S' H' cls d, Same (fz Z H S) (fz Z H' S') → Sim K Z H' S' → ExR K (fz Z H' S') x cls d → E x S' → W cls d H'
theorem GotE.to {K : PySem.W.Frag} {Z H H1 : Hp} {S S1 : DS} {E : QE} {W : XK} (g : GotE K Z H S E W) (e : Same (fz Z H S) (fz Z H1 S1)) : GotE K Z H1 S1 E W :=
  fun x S' H' cls d e' s r q => g x S' H' cls d (e.trans e') s r q
def tE (K : PySem.W.Frag) (W : WX) (r : RV) : TE := fun σV H Q => ∃ Z σ S QD ED, Sim K Z H S ∧ Sts K (fz Z H S) σ σV ∧ r σ S QD ED ∧ Got K Z H S QD Q ∧ GotE K Z H S ED (fun cls d H' => W cls d σV H')
def GotT (K : PySem.W.Frag) (Z H : Hp) (S : DS) (Q : Bool → DS → Prop) (Qv : Bool → Hp → Prop) : Prop :=
  ∀ b H' S', Same (fz Z H S) (fz Z H' S') → Sim K Z H' S' → Q b S' → Qv b H'
theorem GotT.to {K : PySem.W.Frag} {Z H H1 : Hp} {S S1 : DS} {Q : Bool → DS → Prop} {Qv : Bool → Hp → Prop} (g : GotT K Z H S Q Qv) (e : Same (fz Z H S) (fz Z H1 S1)) : GotT K Z H1 S1 Q Qv :=
  fun b H' S' e' s q => g b H' S' (e.trans e') s q
theorem GotT.here {K : PySem.W.Frag} {Z H : Hp} {S : DS} {Q : Bool → DS → Prop} {Qv : Bool → Hp → Prop} (g : GotT K Z H S Q Qv) (s : Sim K Z H S) {b : Bool} (q : Q b S) : Qv b H := g b H S (Same.refl _) s q
def tT (K : PySem.W.Frag) (W : WX) (r : RT) : TT := fun σV H Q => ∃ Z σ S QD ED, Sim K Z H S ∧ Sts K (fz Z H S) σ σV ∧ r σ S QD ED ∧ GotT K Z H S QD Q ∧ GotE K Z H S ED (fun cls d H' => W cls d σV H')
def GotL (K : PySem.W.Frag) (Z H : Hp) (S : DS) (Q : List D → DS → Prop) (Qv : List V → Hp → Prop) : Prop :=
  ∀ vs H' ds S', Same (fz Z H S) (fz Z H' S') → Sim K Z H' S' → RepL K (fz Z H' S') ds vs → Q ds S' → Qv vs H'
def tL (K : PySem.W.Frag) (W : WX) (r : RVs) : TA := fun σV H Q => ∃ Z σ S QD ED, Sim K Z H S ∧ Sts K (fz Z H S) σ σV ∧ r σ S QD ED ∧ GotL K Z H S QD Q ∧ GotE K Z H S ED (fun cls d H' => W cls d σV H')
theorem _root_.L2.PE.imp {X : Cx} {e : Expr} {t t' : TE} (h : PE X e t) (hi : ∀ σ H Q, t' σ H Q → t σ H Q) : PE X e t' := ⟨fun pins s σ H Q I q => h.run pins s σ H Q I (hi σ H Q q)⟩
theorem _root_.L2.PT.imp {X : Cx} {e : Expr} {t t' : TT} (h : PT X e t) (hi : ∀ σ H Q, t' σ H Q → t σ H Q) : PT X e t' := ⟨fun pins s σ H Q I q => h.run pins s σ H Q I (hi σ H Q q)⟩
theorem _root_.L2.PW.imp {X : Cx} {e : Expr} {t t' : TT} (h : PW X e t) (hi : ∀ σ H Q, t' σ H Q → t σ H Q) : PW X e t' := ⟨fun wh pins s σ H Q I q => h.run wh pins s σ H Q I (hi σ H Q q)⟩
theorem _root_.L2.PA.imp {X : Cx} {es : List Expr} {t t' : TA} (h : PA X es t) (hi : ∀ σ H Q, t' σ H Q → t σ H Q) : PA X es t' := ⟨fun pos pins s σ H Q I q => h.run pos pins s σ H Q I (hi σ H Q q)⟩
/-- an expression that is no star, and no bare call of a name -/
def nice : Expr → Bool
  | .Starred _ _ => false
  | .Call (.Name _ _) [] [] _ => false
  | _ => true
theorem nice_base {o : Expr} (h : nice o = true) (m : Str) (env : Env) : attributeBase o m env (eval o env) = eval o env := by
  cases o <;> try rfl
  rename_i f as ks p
  cases f <;> try rfl
  cases as <;> try rfl
  cases ks <;> try rfl
  cases h
theorem nice_star {e : Expr} (h : nice e = true) (es : List Expr) (env : Env) : starEach (e :: es) env = (false, eval e env) :: starEach es env := by
  cases e <;> first | rfl | cases h
section
variable {X : Cx} {W : WX} {K : PySem.W.Frag}
theorem tE_r2 {a b : RV} {f : D → D → DS → QD → Prop} {r : R2} (L : L2of K r f) {σV : StV} {H : Hp} {Q : VK} (h : tE K W (r2 a b f) σV H Q) : tOp r (tE K W a) (tE K W b) σV H Q := by
  obtain ⟨Z, σ, S, QD, ED, s, st, h, g, ge⟩ := h
  exact ⟨Z, σ, S, _, ED, s, st, h, fun v H1 d S1 e1 s1 r1 h1 => ⟨Z, σ, S1, _, ED, s1, st.mono e1, h1,
    fun w H2 d2 S2 e2 s2 r2 h2 => L Z H2 S2 v w d d2 QD Q s2 (RepV.mono e2 _ _ r1) r2 h2 (g.to (e1.trans e2)), ge.to e1⟩, ge⟩
theorem tE_tru {a : RV} {σV : StV} {H : Hp} {Q : Bool → Hp → Prop} (h : tT K W (rTru a) σV H Q) : tE K W a σV H (fun x H' => ∃ k, TruV K x H' k ∧ Q k H') := by
  obtain ⟨Z, σ, S, QD, ED, s, st, h, g, ge⟩ := h
  exact ⟨Z, σ, S, _, ED, s, st, h, fun v H1 d S1 e1 s1 r1 ⟨t, ht, q⟩ => ⟨t, l_tru s1 r1 ht, g t H1 S1 e1 s1 q⟩, ge⟩
theorem tE_bl {a : RV} {σV : StV} {H : Hp} {Q : Bool → Hp → Prop} (h : tT K W (rBl a) σV H Q) : tTest (tE K W a) σV H Q := by
  obtain ⟨Z, σ, S, QD, ED, s, st, h, g, ge⟩ := h
  refine ⟨Z, σ, S, _, ED, s, st, h, fun v H1 d S1 e1 s1 r1 ⟨t, ht, q⟩ => ⟨t, ?_, g t H1 S1 e1 s1 q⟩, ge⟩
  subst ht
  simpa only [RepV] using r1
/-- a test by its value's truth -/
theorem pt_tru {e : Expr} {a : RV} (h : PE X e (tE X.K W a)) (he : ∀ whole, isTrue e X.env whole = (do let v ← whole; standAt e.pos; holding [v] (truthy v))) : PT X e (tT X.K W (rTru a)) :=
  (pt_truth h he).imp fun _ _ _ q => tE_tru q
/-! atoms -/
theorem pe_V {i : Nat} {x : Str} {pos : Pos} (hN : X.N[i]? = some x) (hv : Vis X.env.scope x) (hd : (x == ("__debug__" : Str)) = false) (hc : (x == ("__classdict__" : Str)) = false) : PE X (.Name x pos) (tE X.K W (rVar i)) :=
  (pe_var (i := i) hN hv hd hc).imp fun σV H Q ⟨Z, σ, S, QD, ED, s, st, h, g, ge⟩ => by
    unfold rVar at h
    split at h
    · rename_i d e
      obtain ⟨v, h1, h2⟩ := st.2 i d e
      exact ⟨v, h1, g.here s h2 h⟩
    · exact h.elim
theorem tE_C {d : D} {v : V} (r : ∀ F, RepV K F d v) {σV : StV} {H : Hp} {Q : VK} (h : tE K W (rC d) σV H Q) : tC v σV H Q := by
  obtain ⟨Z, σ, S, QD, ED, s, st, h, g, ge⟩ := h
  exact g.here s (r _) h
theorem tE_1 {a : RV} {f : D → DS → QD → Prop} {r : V → Hp → VK → Prop} (L : ∀ Z H S x d Q Qv, Sim K Z H S → RepV K (fz Z H S) d x → f d S Q → Got K Z H S Q Qv → r x H Qv) {σV : StV} {H : Hp} {Q : VK} (h : tE K W (r1 a f) σV H Q) :
    tE K W a σV H (fun x H1 => r x H1 Q) := by
  obtain ⟨Z, σ, S, QD, ED, s, st, h, g, ge⟩ := h
  exact ⟨Z, σ, S, _, ED, s, st, h, fun v H1 d S1 e1 s1 r1 h1 => L Z H1 S1 v d QD Q s1 r1 h1 (g.to e1), ge⟩
theorem l_neg : ∀ Z H S x d Q Qv, Sim K Z H S → RepV K (fz Z H S) d x → dNeg d S Q → Got K Z H S Q Qv → (rU fun i => .int (-i)) x H Qv := by
  intro Z H S x d Q Qv s r h g
  unfold dNeg at h
  split at h
  · simp only [RepV] at r
    exact ⟨_, r, g.here s (by simp only [RepV]) h⟩
  · exact h.elim
theorem l_not : ∀ Z H S x d Q Qv, Sim K Z H S → RepV K (fz Z H S) d x → dNot d S Q → Got K Z H S Q Qv → ∃ k, TruV K x H k ∧ Qv (.bl (!k)) H := by
  intro Z H S x d Q Qv s r ⟨b, h, q⟩ g
  exact ⟨b, l_tru s r h, g.here s (by simp only [RepV]) q⟩
/-! and, or -/
theorem tE_and {a : RV} {bs : RV} {σV : StV} {H : Hp} {Q : VK} (h : tE K W (fun σ S Q E => a σ S (fun d S1 => ∃ t, d = .bl t ∧ if t = true then bs σ S1 Q E else Q (.bl false) S1) E) σV H Q) : tAndV (tE K W a) (tE K W bs) σV H Q := by
  obtain ⟨Z, σ, S, QD, ED, s, st, h, g, ge⟩ := h
  refine ⟨Z, σ, S, _, ED, s, st, h, fun v H1 d S1 e1 s1 r1 ⟨t, ht, q⟩ => ⟨t, ?_, ?_⟩, ge⟩
  · subst ht; simpa only [RepV] using r1
  · cases t with
    | true => exact ⟨Z, σ, S1, QD, ED, s1, st.mono e1, q, g.to e1, ge.to e1⟩
    | false => exact g _ H1 _ S1 e1 s1 (by simp only [RepV]) q
theorem tE_or {a : RV} {bs : RV} {σV : StV} {H : Hp} {Q : VK} (h : tE K W (fun σ S Q E => a σ S (fun d S1 => ∃ t, d = .bl t ∧ if t = true then Q (.bl true) S1 else bs σ S1 Q E) E) σV H Q) : tOrV (tE K W a) (tE K W bs) σV H Q := by
  obtain ⟨Z, σ, S, QD, ED, s, st, h, g, ge⟩ := h
  refine ⟨Z, σ, S, _, ED, s, st, h, fun v H1 d S1 e1 s1 r1 ⟨t, ht, q⟩ => ⟨t, ?_, ?_⟩, ge⟩
  · subst ht; simpa only [RepV] using r1
  · cases t with
    | false => exact ⟨Z, σ, S1, QD, ED, s1, st.mono e1, q, g.to e1, ge.to e1⟩
    | true => exact g _ H1 _ S1 e1 s1 (by simp only [RepV]) q
theorem tT_and {a bs : RT} {σV : StV} {H : Hp} {Q : Bool → Hp → Prop} (h : tT K W (fun σ S Q E => a σ S (fun t S1 => if t = true then bs σ S1 Q E else Q false S1) E) σV H Q) : tAnd (tT K W a) (tT K W bs) σV H Q := by
  obtain ⟨Z, σ, S, QD, ED, s, st, h, g, ge⟩ := h
  refine ⟨Z, σ, S, _, ED, s, st, h, fun t H1 S1 e1 s1 q => ?_, ge⟩
  cases t with
  | true => exact ⟨Z, σ, S1, QD, ED, s1, st.mono e1, q, g.to e1, ge.to e1⟩
  | false => exact g _ H1 S1 e1 s1 q
theorem tT_or {a bs : RT} {σV : StV} {H : Hp} {Q : Bool → Hp → Prop} (h : tT K W (fun σ S Q E => a σ S (fun t S1 => if t = true then Q true S1 else bs σ S1 Q E) E) σV H Q) : tOr (tT K W a) (tT K W bs) σV H Q := by
  obtain ⟨Z, σ, S, QD, ED, s, st, h, g, ge⟩ := h
  refine ⟨Z, σ, S, _, ED, s, st, h, fun t H1 S1 e1 s1 q => ?_, ge⟩
  cases t with
  | false => exact ⟨Z, σ, S1, QD, ED, s1, st.mono e1, q, g.to e1, ge.to e1⟩
  | true => exact g _ H1 S1 e1 s1 q
theorem tT_not {a : RT} {σV : StV} {H : Hp} {Q : Bool → Hp → Prop} (h : tT K W (rNotT a) σV H Q) : tNot (tT K W a) σV H Q := by
  obtain ⟨Z, σ, S, QD, ED, s, st, h, g, ge⟩ := h
  exact ⟨Z, σ, S, _, ED, s, st, h, fun t H1 S1 e1 s1 q => g _ H1 S1 e1 s1 q, ge⟩
theorem tE_ite {c : RT} {a b : RV} {σV : StV} {H : Hp} {Q : VK} (h : tE K W (rIte c a b) σV H Q) : tIf (tT K W c) (tE K W a) (tE K W b) σV H Q := by
  obtain ⟨Z, σ, S, QD, ED, s, st, h, g, ge⟩ := h
  refine ⟨Z, σ, S, _, ED, s, st, h, fun t H1 S1 e1 s1 q => ?_, ge⟩
  cases t with
  | true => exact ⟨Z, σ, S1, QD, ED, s1, st.mono e1, q, g.to e1, ge.to e1⟩
  | false => exact ⟨Z, σ, S1, QD, ED, s1, st.mono e1, q, g.to e1, ge.to e1⟩
/-! chains -/
def COp.toOrd : COp → Ord
  | .lt => .lt | .le => .le | .gt => .gt | _ => .ge
theorem cmp_ord {o : COp} (h : o.chainOk = true) : cmpD o = dOrd o.toOrd := by cases o <;> first | rfl | cases h
theorem op_ok {o : COp} {q : CmpOp} (h : o.chainOk = true) (h' : o.ok q = true) : q = o.toOrd.op := by
  cases o <;> first | (cases h; done) | (cases q <;> first | rfl | cases h')
theorem tE_chain {o o' : COp} {a b c : RV} (h1 : o.chainOk = true) (h2 : o'.chainOk = true) {σV : StV} {H : Hp} {Q : VK} (h : tE K W (rChain o o' a b c) σV H Q) :
    tChain (rOrd o.toOrd) (rOrd o'.toOrd) (tE K W a) (tE K W b) (tE K W c) σV H Q := by
  obtain ⟨Z, σ, S, QD, ED, s, st, h, g, ge⟩ := h
  refine ⟨Z, σ, S, _, ED, s, st, h, fun v H1 d S1 e1 s1 r1 q1 => ⟨Z, σ, S1, _, ED, s1, st.mono e1, q1, fun w H2 d2 S2 e2 s2 r2 q2 => ?_, ge.to e1⟩, ge⟩
  rw [cmp_ord h1] at q2
  refine l_ord o.toOrd Z H2 S2 v w d d2 _ _ s2 (RepV.mono e2 _ _ r1) r2 q2 fun u H3 d3 S3 e3 s3 r3 ⟨t, ht, q3⟩ => ?_
  subst ht
  simp only [RepV] at r3
  refine ⟨t, r3, ?_⟩
  have e123 := (e1.trans e2).trans e3
  cases t with
  | true =>
    refine ⟨Z, σ, S3, _, ED, s3, st.mono e123, q3, fun z H4 d4 S4 e4 s4 r4 q4 => ?_, ge.to e123⟩
    rw [cmp_ord h2] at q4
    exact l_ord o'.toOrd Z H4 S4 w z d2 d4 QD Q s4 (RepV.mono (e3.trans e4) _ _ r2) r4 q4 (g.to (e123.trans e4))
  | false => exact g _ H3 _ S3 e123 s3 (by simp only [RepV]) q3
/-! lists of arguments -/
theorem tL_nil {σV : StV} {H : Hp} {Q : List V → Hp → Prop} (h : tL K W rNil σV H Q) : tNil σV H Q := by
  obtain ⟨Z, σ, S, QD, ED, s, st, h, g, ge⟩ := h
  exact g [] H [] S (Same.refl _) s (by simp only [RepL]) h
theorem tL_cons {a : RV} {as : RVs} {σV : StV} {H : Hp} {Q : List V → Hp → Prop} (h : tL K W (rCons a as) σV H Q) : tCons (tE K W a) (tL K W as) σV H Q := by
  obtain ⟨Z, σ, S, QD, ED, s, st, h, g, ge⟩ := h
  exact ⟨Z, σ, S, _, ED, s, st, h, fun v H1 d S1 e1 s1 r1 q => ⟨Z, σ, S1, _, ED, s1, st.mono e1, q,
    fun vs H2 ds S2 e2 s2 r2 q2 => g _ H2 _ S2 (e1.trans e2) s2 (RepL.cons (RepV.mono e2 _ _ r1) r2) q2, ge.to e1⟩, ge⟩
/-- what a list of arguments is handed to -/
theorem tL_S {as : RVs} {f : List D → DS → QD → QE → Prop} {r : StV → List V → Hp → VK → Prop}
    (L : ∀ Z H S xs ds Q E Qv σV, Sim K Z H S → RepL K (fz Z H S) ds xs → f ds S Q E → Got K Z H S Q Qv → GotE K Z H S E (fun cls d H' => W cls d σV H') → r σV xs H Qv) {σV : StV} {H : Hp} {Q : VK} (h : tE K W (rS as f) σV H Q) :
    tL K W as σV H (fun xs H1 => r σV xs H1 Q) := by
  obtain ⟨Z, σ, S, QD, ED, s, st, h, g, ge⟩ := h
  exact ⟨Z, σ, S, _, ED, s, st, h, fun vs H1 ds S1 e1 s1 r1 q => L Z H1 S1 vs ds QD ED Q σV s1 r1 q (g.to e1) (ge.to e1), ge⟩
theorem tE_M {o : RV} {ok : DS → D → Prop} {es : RVs} {f : D → List D → DS → QD → QE → Prop} {okV : V → Hp → Prop} {r : StV → V → List V → Hp → VK → Prop}
    (L0 : ∀ Z H S x d, Sim K Z H S → RepV K (fz Z H S) d x → ok S d → okV x H)
    (L : ∀ Z H S x xs d ds Q E Qv σV, Sim K Z H S → RepV K (fz Z H S) d x → RepL K (fz Z H S) ds xs → f d ds S Q E → Got K Z H S Q Qv → GotE K Z H S E (fun cls d H' => W cls d σV H') → r σV x xs H Qv) {σV : StV} {H : Hp} {Q : VK}
    (h : tE K W (rM o ok es f) σV H Q) : tE K W o σV H (fun x H1 => okV x H1 ∧ tL K W es σV H1 (fun xs H2 => r σV x xs H2 Q)) := by
  obtain ⟨Z, σ, S, QD, ED, s, st, h, g, ge⟩ := h
  refine ⟨Z, σ, S, _, ED, s, st, h, fun v H1 d S1 e1 s1 r1 ⟨ok1, q⟩ => ⟨L0 Z H1 S1 v d s1 r1 ok1, Z, σ, S1, _, ED, s1, st.mono e1, q, fun vs H2 ds S2 e2 s2 r2 q2 => ?_, ge.to e1⟩, ge⟩
  exact L Z H2 S2 v vs d ds QD ED Q σV s2 (RepV.mono e2 _ _ r1) r2 q2 (g.to (e1.trans e2)) (ge.to (e1.trans e2))
theorem l_lst {live : Bool} : ∀ Z H S xs ds Q E Qv (σV : StV), Sim K Z H S → RepL K (fz Z H S) ds xs → lstD live ds S Q E → Got K Z H S Q Qv → GotE K Z H S E (fun cls d H' => W cls d σV H') →
    (xs.length ≤ sizeLine ∧ ∀ p, H p = none → Qv (.ref p) (upd H p (.lst xs))) := by
  intro Z H S xs ds Q E Qv σV s r ⟨hl, q⟩ g _
  exact ⟨by rw [r.length]; exact hl, g.list s r q⟩
theorem l_tup : ∀ Z H S xs ds Q E Qv (σV : StV), Sim K Z H S → RepL K (fz Z H S) ds xs → tupD ds S Q E → Got K Z H S Q Qv → GotE K Z H S E (fun cls d H' => W cls d σV H') →
    (xs.length ≤ sizeLine ∧ ∀ p, H p = none → Qv (.ref p) (upd H p (.tup xs))) := by
  intro Z H S xs ds Q E Qv σV s r ⟨hl, q⟩ g _
  exact ⟨by rw [r.length]; exact hl, g.tuple s r q⟩
/-! slices -/
theorem tE_sl {live : Bool} {a : RV} {lo hi : Option RV} {tl th : TO}
    (hlo : (lo = none ∧ tl = tNoPart) ∨ ∃ l, lo = some l ∧ tl = tPart (tE K W l)) (hhi : (hi = none ∧ th = tNoPart) ∨ ∃ l, hi = some l ∧ th = tPart (tE K W l)) {σV : StV} {H : Hp} {Q : VK} (h : tE K W (rSl live a lo hi) σV H Q) :
    tSl (rSlA K) (tE K W a) tl th σV H Q := by
  obtain ⟨Z, σ, S, QD, ED, s, st, h, g, ge⟩ := h
  refine ⟨Z, σ, S, _, ED, s, st, h, fun v H1 d S1 e1 s1 r1 q => ?_, ge⟩
  rcases hlo with ⟨h1, h2⟩ | ⟨l, h1, h2⟩ <;> rcases hhi with ⟨h3, h4⟩ | ⟨l', h3, h4⟩ <;> subst h1 h2 h3 h4
  · exact l_sl Z H1 S1 v _ _ d QD Q s1 r1 q (g.to e1)
  · refine ⟨Z, σ, S1, _, ED, s1, st.mono e1, q, fun w H2 d2 S2 e2 s2 r2 ⟨j, hj, q2⟩ => ?_, ge.to e1⟩
    subst hj
    simp only [RepV] at r2
    exact ⟨j, r2, l_sl Z H2 S2 v _ _ d QD Q s2 (RepV.mono e2 _ _ r1) q2 (g.to (e1.trans e2))⟩
  · refine ⟨Z, σ, S1, _, ED, s1, st.mono e1, q, fun w H2 d2 S2 e2 s2 r2 ⟨j, hj, q2⟩ => ?_, ge.to e1⟩
    subst hj
    simp only [RepV] at r2
    exact ⟨j, r2, l_sl Z H2 S2 v _ _ d QD Q s2 (RepV.mono e2 _ _ r1) q2 (g.to (e1.trans e2))⟩
  · refine ⟨Z, σ, S1, _, ED, s1, st.mono e1, q, fun w H2 d2 S2 e2 s2 r2 ⟨j, hj, q2⟩ => ?_, ge.to e1⟩
    subst hj
    simp only [RepV] at r2
    refine ⟨j, r2, Z, σ, S2, _, ED, s2, st.mono (e1.trans e2), q2, fun w3 H3 d3 S3 e3 s3 r3 ⟨j3, hj3, q3⟩ => ?_, ge.to (e1.trans e2)⟩
    subst hj3
    simp only [RepV] at r3
    exact ⟨j3, r3, l_sl Z H3 S3 v _ _ d QD Q s3 (RepV.mono (e2.trans e3) _ _ r1) q3 (g.to ((e1.trans e2).trans e3))⟩
end
end DL

set_option linter.all false
set_option autoImplicit false
set_option maxHeartbeats 1000000
namespace DL
open PySem PySem.Spec PyProof.Rows L2 TL
/-! ### promises -/
/-- a data-level promise as the hand layer's -/
def liftSp (K : PySem.W.Frag) (sp : DSp) : Sp := fun vs H Q E => ∃ Z S ds QD ED, Sim K Z H S ∧ RepL K (fz Z H S) ds vs ∧ sp ds S QD ED ∧ Got K Z H S QD Q ∧ GotE K Z H S ED E
def Fn4 (P : Program) (w : World) (K : PySem.W.Frag) (mg : Str → Option Value) (base : Heap) (k : Nat) (fa : Addr) (sp : DSp) : Prop :=
  ∃ fd ps, Binds K fd ps [] ∧ FnOk P w K mg base (L2.CX P w) k fa fd ps (liftSp K sp)
/-- the names of the built-in things that are used -/
def biNames : List String := ["len", "ord", "abs", "int", "str", "all", "any", "list", "isinstance", "range", "bool", "tuple", "sum", "min", "max", "sorted", "set"]
/-- what an own refusal's class says -/
structure ExcF (K : PySem.W.Frag) (C : Addr) : Prop where
  ga : PySem.W.findIn K (Value.ref C) "__getattribute__" = some (some (Value.builtin "BaseException.__getattribute__"))
  gt : PySem.W.findIn K (.ref C) "__getattr__" = some none
  sub : PySem.W.subIn K (.ref C) (.type "BaseException") = some true
  hd : (PySem.W.hasDictIn K C) = true
  cl : PySem.W.findIn K (.ref C) "__class__" = some (some (.builtin "object.__class__"))
  gd : PySem.W.specialIn K (.builtin "object.__class__") "__get__" = some (some (.builtin "getset_descriptor.__get__"))
  tk : PySem.W.takesIn K (.builtin "object.__class__") = some true
  mro : PySem.W.mroIn K C (.type "object") = some true
structure ExMk (K : PySem.W.Frag) (C : Addr) : Prop where
  keep : PySem.W.keepIn K (.ref C) = true
  ty : PySem.W.typeIn K (.ref C) = some (.type "type")
  sub : PySem.W.subIn K (.ref C) (.type "BaseException") = some true
  made : ∃ B n i bm, ExcBaseFacts B n i bm ∧ PySem.W.excIn K C bm n = true
structure GamOk (P : Program) (w : World) (K : PySem.W.Frag) (mg : Str → Option Value) (base : Heap) (Γ : Gam) (k : Nat) : Prop where
  fn : ∀ f sp, Γ.fn f = some sp → ∃ fa, mg (Str.ofString f) = some (.ref fa) ∧ PySem.W.keepIn K (.ref fa) = true ∧ Fn4 P w K mg base k fa sp
  gv : ∀ x d, Γ.gv x = some d → ∃ u v, mg (Str.ofString x) = some u ∧ RelV v u ∧ ∀ F, RepV K F d v
  mt : ∀ C m sp, Γ.mt C m = some sp → Cls K (He.ga K (Str.ofString C)) ∧ ∃ fa, Meth K (He.ga K (Str.ofString C)) (Str.ofString m) fa ∧ Fn4 P w K mg base k fa sp
  ini : ∀ C sp, Γ.ini C = some sp → mg (Str.ofString C) = some (.ref (He.ga K (Str.ofString C))) ∧ ∃ fa j, Mk K (He.ga K (Str.ofString C)) fa ∧ j + 1 ≤ k ∧ Fn4 P w K mg base j fa sp
  fl : ∀ c f, Γ.fl c f = true → Cls K (He.ga K (Str.ofString c)) ∧ NoAttr K (He.ga K (Str.ofString c)) (Str.ofString f)
  bi : ∀ n ∈ biNames, mg (Str.ofString n) = none
  ex : ∀ c ∈ exNames, ExcF K (He.ga K (Str.ofString c)) ∧ ∀ T ∈ exAll, mg (Str.ofString T) = some (.ref (He.ga K (Str.ofString T))) ∧ PySem.W.kitOne K (.ref (He.ga K (Str.ofString c))) (.ref (He.ga K (Str.ofString T))) = some (subEx c T) ∧ PySem.W.exmOne K (.ref (He.ga K (Str.ofString c))) (.ref (He.ga K (Str.ofString T))) = some (subEx c T)
  rz : ∀ c ∈ exNames, c ≠ "Fault" → ExMk K (He.ga K (Str.ofString c))
  exV : ∀ c ∈ exNames, PySem.W.kitOne K (.ref (He.ga K (Str.ofString c))) (.type "ValueError") = some true
  noV : mg (Str.ofString "ValueError") = none
  fx : ∀ c f, Γ.fx c f = true → c ∈ exNames ∧ PySem.W.findIn K (.ref (He.ga K (Str.ofString c))) (Str.ofString f) = some none
  gd : ∀ x l, Γ.gd x = some l → ∃ a es n, mg (Str.ofString x) = some (.ref a) ∧ KDict K w a es n ∧ (∀ t, lookG l t = none → PySem.W.nsIn K a (tS t) = some none) ∧
    (∀ t z, lookG l t = some z → TxOk z ∧ ∃ u, PySem.W.nsIn K a (tS t) = some (some u) ∧ RelV (.str (tS z)) u)
structure Good (Γ : Gam) (k : Nat) (N : List Str) (calm : Bool) (sc : Scope) (X : Cx) : Prop where
  gam : GamOk X.prog X.w X.K X.mg X.base Γ k
  nd : X.N.Nodup
  n : X.N = N
  sc : X.env.scope = sc
  hu : X.A.units + 200 < cLine
  calm : calm = true → X.calm = true ∧ Room k X.A
section
variable {Γ : Gam} {k : Nat} {N : List Str} {calm : Bool} {sc : Scope} {X : Cx} {W : WX}
theorem Good.vis (G : Good Γ k N calm sc X) {x : Str} (h : isVis (sc.names.lookup x) = true) : Vis X.env.scope x := by
  rw [G.sc]
  unfold Vis
  unfold isVis at h
  split at h <;> first | (rename_i e; rw [e]; simp) | cases h
theorem Good.gl (G : Good Γ k N calm sc X) {x : Str} {f : String} (h : glB sc x f = true) : x = Str.ofString f ∧ Gl X x ∧ (x == ("__debug__" : Str)) = false ∧ (x == ("__classdict__" : Str)) = false ∧ x ≠ ("__name__" : Str) := by
  unfold glB plainN at h
  simp only [Bool.and_eq_true, decide_eq_true_eq, Bool.not_eq_true'] at h
  obtain ⟨h1, h2, h3, h4, h5⟩ := h
  refine ⟨h1, ?_, h3, h4, beq_eq_false_iff_ne.mp h5⟩
  show X.env.scope.names.lookup x = _
  rw [G.sc]
  unfold isGl at h2
  split at h2
  · assumption
  · cases h2
theorem nostar : ∀ {es : List Expr} (env : Env) (pos : Pos), es.all nice = true → (backTo pos (starEach es env)).any (·.1) = false
  | [], _, _, _ => rfl
  | e :: es, env, pos, h => by
    rw [List.all_cons, Bool.and_eq_true] at h
    rw [nice_star h.1]
    have ih := nostar env pos h.2
    unfold backTo at ih ⊢
    rw [List.map_cons, List.any_cons, ih]
    rfl
theorem nostar_all : ∀ {es : List Expr} (env : Env) (pos : Pos), es.all nice = true → (backTo pos (starEach es env)).all (fun x => !x.1) = true
  | [], _, _, _ => rfl
  | e :: es, env, pos, h => by
    rw [List.all_cons, Bool.and_eq_true] at h
    rw [nice_star h.1]
    have ih := nostar_all env pos h.2
    unfold backTo at ih ⊢
    rw [List.map_cons, List.all_cons, ih]
    rfl
/-! functions -/
theorem l_fn {sp : DSp} : ∀ Z H S xs ds Q E Qv (σV : StV), Sim X.K Z H S → RepL X.K (fz Z H S) ds xs → sp ds S Q E → Got X.K Z H S Q Qv → GotE X.K Z H S E (fun cls d H' => W cls d σV H') → liftSp X.K sp xs H Qv (WE W σV) :=
  fun Z H S xs ds Q E Qv σV s r h g ge => ⟨Z, S, ds, Q, E, s, r, h, g, ge⟩
theorem pe_never {e : Expr} {t : TE} (h : ∀ σ H Q, t σ H Q → False) : PE X e t := ⟨fun _ _ σ H Q _ q => (h σ H Q q).elim⟩
theorem tE_false {σV : StV} {H : Hp} {Q : VK} (h : tE X.K W (fun _ _ _ _ => False) σV H Q) : False := by
  obtain ⟨Z, σ, S, QD, ED, s, st, h, g, ge⟩ := h
  exact h
theorem pe_fn {o : Option DSp} {f : String} {x : Str} {p pos : Pos} {e : Expr} {es : List Expr} {as : RVs} (ho : Γ.fn f = o) (G : Good Γ k N calm sc X) (hc : calm = true) (tk : Takes X W) (hx : glB sc x f = true) (hn : (e :: es).all nice = true)
    (ha : PA X (e :: es) (tL X.K W as)) : PE X (.Call (.Name x p) (e :: es) [] pos) (tE X.K W (rFn o as)) := by
  cases o with
  | none => exact pe_never fun _ _ _ q => tE_false q
  | some sp =>
    obtain ⟨fa, hm, hk, fd, ps, hb, hF⟩ := G.gam.fn f sp ho
    obtain ⟨e1, hg, hd, _⟩ := G.gl hx
    rw [List.all_cons, Bool.and_eq_true] at hn
    exact (pe_callS (E := WE W) hF (G.calm hc).2 hg (by rw [e1]; exact hm) hk hb (fun σ => passAt tk σ) ha hd (nice_star hn.1 _ _) (nostar _ _ hn.2)).imp fun σ H Q q => tL_S (r := fun σ vs H Q => liftSp X.K sp vs H Q (WE W σ)) l_fn q
/-! a new instance -/
theorem l_new {sp : DSp} {C : String} : ∀ Z H S xs ds Q E Qv (σV : StV), Sim X.K Z H S → RepL X.K (fz Z H S) ds xs → newD sp C ds S Q E → Got X.K Z H S Q Qv → GotE X.K Z H S E (fun cls d H' => W cls d σV H') →
    (∀ x dx, H x = none → H dx = none → dx ≠ x → liftSp X.K sp (.ref x :: xs) (upd (upd H dx (.own x)) x (.ins (He.ga X.K (Str.ofString C)) dx [])) (fun v H2 => v = .non ∧ Qv (.ref x) H2) (WE W σV)) := by
  intro Z H S xs ds Q E Qv σV s r h g ge x dx hx hdx hne
  obtain ⟨s1, e1, _⟩ := s.newF hdx (.own x)
  have hx1 : upd H dx (.own x) x = none := by rw [L2.upd_ne (Ne.symm hne)]; exact hx
  obtain ⟨s2, e2, hS⟩ := s1.newL hx1 (.ins (He.ga X.K (Str.ofString C)) dx []) (.ins C []) ⟨dx, [], upd_same, by simp only [RepF]⟩
  have e12 := e1.trans e2
  refine ⟨Z, S.upd x (.ins C []), .ref x :: ds, _, E, s2, RepL.cons (by simp only [RepV]) (RepL.mono e12 _ _ r), h x hS, fun v H' d S' e3 s3 r3 ⟨hv, q⟩ => ⟨?_, ?_⟩, ge.to e12⟩
  · subst hv; simpa only [RepV] using r3
  · exact g (.ref x) H' (.ref x) S' (e12.trans e3) s3 (by simp only [RepV]) q
theorem run_makeS {CX : CXT} {j : Nat} {f C : Addr} {fd : FuncData} {ps : List Str} {sp : Sp} {E : XK} {pn : List (Addr × Obj)} {sv : StV} {G : Hp} {s0 : Shared} {Q : VK} {us : List Value} {vs : List V} (M : Mk X.K C f) (F : FnOk X.prog X.w X.K X.mg X.base CX j f fd ps sp) (hr : Room (j + 1) X.A) (hb : Binds X.K fd ps [])
    (hx : PassesAt CX X sv E) (I : L2.Inv X pn sv G s0) (rel : Vals vs us) (wish : ∀ x dx, G x = none → G dx = none → dx ≠ x → sp (.ref x :: vs) (upd (upd G dx (.own x)) x (.ins C dx [])) (fun v G2 => v = .non ∧ Q (.ref x) G2) E) :
    wpAny (model X.prog X.w) X.A (call (.ref C) us) (EP X pn sv Q) X.xe s0 := by
  have free := fun b hb => I.hok.fresh (a := b) hb
  have J := Inv.made (C := C) I
  have due := wish (s0.heap.objs.size + 1) s0.heap.objs.size (free _ (Nat.le_succ _)) (free _ (Nat.le_refl _)) (Nat.ne_of_lt (Nat.lt_succ_self _))
  have rel2 : Vals (.ref (s0.heap.objs.size + 1) :: vs) (.ref (s0.heap.objs.size + 1) :: us) := .cons rfl rel
  have bd := hb _ (.ref (s0.heap.objs.size + 1) :: us) J.kIn (by rw [List.append_nil, ← rel2.length]; exact F.len _ _ _ _ due)
  rw [List.append_nil] at bd
  have body := F.run _ X.stack _ _ ⟨.ref (s0.heap.objs.size + 1) :: us, []⟩ (.ref (s0.heap.objs.size + 1) :: us) _ _ E (hr.make C us []) (J.env0.make C us []) bd rel2 due
  apply wpAny_call
  refine make_map (f := f) I.kIn M.makes M.init (beq_iff_eq.mp M.fn) (codeAny_mono body ?_)
  rintro (e | fl) s2 post
  · exact hx pn _ _ e s2 J post
  · cases fl <;> first | exact post.elim | skip
    obtain ⟨v, G2, J2, rv, ev, done⟩ := J.after post
    subst ev
    exact ⟨rv, .ref (s0.heap.objs.size + 1), G2, J2, rfl, done⟩
theorem pe_new {o : Option DSp} {C : String} {x : Str} {p pos : Pos} {e : Expr} {es : List Expr} {as : RVs} (ho : Γ.ini C = o) (G : Good Γ k N calm sc X) (hc : calm = true) (tk : Takes X W) (hx : glB sc x C = true) (hn : (e :: es).all nice = true)
    (ha : PA X (e :: es) (tL X.K W as)) : PE X (.Call (.Name x p) (e :: es) [] pos) (tE X.K W (rNew o C as)) := by
  cases o with
  | none => exact pe_never fun _ _ _ q => tE_false q
  | some sp =>
    obtain ⟨hm, fa, j, hM, hj, fd, ps, hb, hF⟩ := G.gam.ini C sp ho
    obtain ⟨e1, hg, hd, _⟩ := G.gl hx
    rw [List.all_cons, Bool.and_eq_true] at hn
    refine ⟨fun pins s σ H Q I h => ?_⟩
    have h2 := tL_S (r := fun σV xs H Q => ∀ x dx, H x = none → H dx = none → dx ≠ x → liftSp X.K sp (.ref x :: xs) (upd (upd H dx (.own x)) x (.ins (He.ga X.K (Str.ofString C)) dx [])) (fun v H2 => v = .non ∧ Q (.ref x) H2) (WE W σV)) l_new h
    refine wpAny_Call_Name_kw (ld_glob I hg (by rw [e1]; exact hm) ?_ hd)
    refine PySem.W.callWith_K (h₀ := X.base) I.ok.mod.kin hM.kp (thn (ha.run pos pins s σ H _ I h2) fun us s1 ⟨vs, H1, I1, r, q⟩ => ⟨I1.kIn, ?_⟩) (nice_star hn.1 _ _) (nostar _ _ hn.2)
    exact run_makeS hM hF ((G.calm hc).2.mono hj) hb (passAt tk σ) I1 r q
/-! a method's call -/
theorem eval_mcall {o : Expr} {m : Str} {apos pos : Pos} {es : List Expr} {env : Env} (hb : attributeBase o m env (eval o env) = eval o env) (hn : es.all nice = true) (hl : es.length < 20) (hp : (apos.endLine == pos.line) = true) :
    eval (.Call (.Attribute o m apos) es [] pos) env = (do
      let ov ← eval o env
      standAt apos.atName
      let (f, first) ← holding [ov] (getMethod ov m (L2.plainOf o env))
      callWith pos f first (backTo pos (starEach es env)) (backToKw pos (keywordEach [] env))) := by
  have hf : methodCallForm (es.length + ([] : List Keyword).length) (backTo pos (starEach es env)) (backToKw pos (keywordEach [] env)) = true := by
    unfold methodCallForm
    rw [nostar_all env pos hn, Bool.true_and]
    show (true && decide (es.length + 0 + 0 < 30)) = true
    rw [Bool.true_and]
    exact decide_eq_true (by omega)
  show (do
    let ov ← attributeBase o m env (eval o env)
    standAt apos.atName
    methodCall o m apos pos env ov (es.length + ([] : List Keyword).length) (backTo pos (starEach es env)) (backToKw pos (keywordEach [] env))) = _
  rw [hb]
  simp only [mcall_line hf hp]
theorem ofString_inj {m q : String} (z : Str.ofString m = Str.ofString q) : m = q := by
  have h := congrArg tl z
  rw [tl_ofString, tl_ofString] at h
  have hinj : ∀ (a b : List Char), a.map Char.toNat = b.map Char.toNat → a = b := by
    intro a
    induction a with
    | nil => intro b h; cases b with
      | nil => rfl
      | cons _ _ => simp at h
    | cons x xs ih => intro b h; cases b with
      | nil => simp at h
      | cons y ys =>
        simp only [List.map_cons, List.cons.injEq] at h
        rw [ih ys h.2, Char.toNat_inj.mp h.1]
  exact String.toList_inj.mp (hinj _ _ h)
theorem RepF.look {K : PySem.W.Frag} {F : Hp} {m : String} : ∀ {fs : List (String × D)} {vs : List (Str × V)}, RepF K F fs vs →
    (fs.lookup m = none ∧ vs.lookup (Str.ofString m) = none) ∨ ∃ d v, fs.lookup m = some d ∧ vs.lookup (Str.ofString m) = some v ∧ RepV K F d v
  | [], vs, h => by simp only [RepF] at h; subst h; exact .inl ⟨rfl, rfl⟩
  | (q, d) :: fs, vs, h => by
    simp only [RepF] at h
    obtain ⟨v, r, h1, h2, h3⟩ := h
    subst h1
    by_cases e : m = q
    · subst e; exact .inr ⟨d, v, by simp, by simp, h2⟩
    · have e2 : (m == q) = false := beq_eq_false_iff_ne.mpr e
      have e3 : (Str.ofString m == Str.ofString q) = false := beq_eq_false_iff_ne.mpr fun z => e (ofString_inj z)
      simp only [List.lookup, e2, e3]
      exact RepF.look h3
theorem l_ins {C m : String} : ∀ Z H S x d, Sim X.K Z H S → RepV X.K (fz Z H S) d x → isIns C m S d → ∃ a dx fs, x = .ref a ∧ H a = some (.ins (He.ga X.K (Str.ofString C)) dx fs) ∧ fs.lookup (Str.ofString m) = none := by
  have key : ∀ {F : Hp} {fs : List (String × D)} {vs : List (Str × V)}, RepF X.K F fs vs → fs.lookup m = none → vs.lookup (Str.ofString m) = none := by
    intro F fs vs h hl
    rcases h.look (m := m) with ⟨_, h2⟩ | ⟨d, v, h1, _⟩
    · exact h2
    · rw [h1] at hl; cases hl
  intro Z H S x d s r ⟨fs, h, hl⟩
  unfold insOf at h
  split at h
  · cases h
    simp only [RepV] at r
    obtain ⟨r, dx, vs, h1, h2⟩ := r
    exact ⟨_, dx, vs, r, fz_sub _ _ h1, key h2 hl⟩
  · split at h
    · rename_i e
      cases h
      simp only [RepV] at r
      obtain ⟨dx, vs, h1, h2⟩ := s.cells _ _ e
      exact ⟨_, dx, vs, r, h1, key h2 hl⟩
    · cases h
  · cases h
theorem l_mt {sp : DSp} : ∀ Z H S x xs d ds Q E Qv (σV : StV), Sim X.K Z H S → RepV X.K (fz Z H S) d x → RepL X.K (fz Z H S) ds xs → sp (d :: ds) S Q E → Got X.K Z H S Q Qv → GotE X.K Z H S E (fun cls dd H' => W cls dd σV H') → liftSp X.K sp (x :: xs) H Qv (WE W σV) :=
  fun Z H S x xs d ds Q E Qv σV s r rs h g ge => ⟨Z, S, d :: ds, Q, E, s, RepL.cons r rs, h, g, ge⟩
theorem pe_mt {o : Option DSp} {C m : String} {oe : Expr} {apos pos : Pos} {es : List Expr} {ro : RV} {as : RVs} (ho : Γ.mt C m = o) (G : Good Γ k N calm sc X) (hc : calm = true) (tk : Takes X W) (hp : (apos.endLine == pos.line) = true) (hno : nice oe = true) (hn : es.all nice = true) (hl : es.length < 20)
    (he : PE X oe (tE X.K W ro)) (ha : PA X es (tL X.K W as)) (has : es = [] → as = rNil) : PE X (.Call (.Attribute oe (Str.ofString m) apos) es [] pos) (tE X.K W (rMt o C m ro as)) := by
  cases o with
  | none => exact pe_never fun _ _ _ q => tE_false q
  | some sp =>
    obtain ⟨hC, fa, hM, fd, ps, hb, hF⟩ := G.gam.mt C m sp ho
    refine ⟨fun pins s σ H Q I h => ?_⟩
    have h2 := tE_M (r := fun σV x xs H Q => liftSp X.K sp (x :: xs) H Q (WE W σV)) (l_ins (C := C) (m := m)) l_mt h
    refine PySem.W.methodCall_KW (pl := L2.plainOf oe X.env) (thn (he.run pins s σ H _ I h2) fun u s1 ⟨x, H1, I1, rx, ⟨a, dx, fs, ex, ea, l⟩, q⟩ => ?_) (eval_mcall (nice_base hno _ _) hn hl hp)
    subst ex
    obtain rfl : u = Value.ref a := rx
    refine getmeth_ok I1 ea hC hM l ?_
    cases es with
    | nil =>
      rw [has rfl] at q
      exact PySem.W.callWith_K0 (first := [.ref a]) I1.kIn hM.kp (run_fnS (us := [.ref a]) (vs := [.ref a]) hF (G.calm hc).2 hb (passAt tk σ) I1 (.cons rfl .nil) (tL_nil q))
    | cons e es =>
      rw [List.all_cons, Bool.and_eq_true] at hn
      refine PySem.W.callWith_K (first := [.ref a]) (h₀ := X.base) I.ok.mod.kin hM.kp (thn (ha.run pos pins s1 σ H1 _ I1 q) fun us s2 ⟨vs, H2, I2, r, q2⟩ => ⟨I2.kIn, ?_⟩) (nice_star hn.1 _ _) (nostar _ _ hn.2)
      exact run_fnS (us := .ref a :: us) (vs := .ref a :: vs) hF (G.calm hc).2 hb (passAt tk σ) I2 (.cons rfl r) q2
end
end DL

set_option linter.all false
set_option autoImplicit false
set_option maxHeartbeats 1000000
namespace PySem.W
open PySem PySem.Spec PySem.Calls PyProof.Rows
section
variable {prog : Program} {w : World} {A : Around} {E : Value → Shared → Prop} {s : Shared} {K : Frag} {x D : Addr} {ox : Obj} {od : Option Obj}
/-- the place that a class's __class__ is found at -/
theorem held_place {C : Addr} {nm : Str} {dsc get : Value} (c1 : (clsIn K C).isSome = true) (c2 : findIn K (.ref C) nm = some (some dsc)) (c3 : specialIn K dsc "__get__" = some (some get)) (c4 : takesIn K dsc = some true) : findObj K C od nm = some (.bind get dsc) := by
  cases e : clsIn K C with
  | none => rw [e] at c1; cases c1
  | some cd => simp [findObj, e, c2, c3, c4]
/-- a refusal's own look-up, asked for its class -/
theorem held_ga {s : Shared} {tk : Tok} {Q : Value → Shared → Prop} (inK : K.In s.heap) (at_ : InstAt s.heap x ox D od) (bs : subIn K (.ref D) (.type "BaseException") = some true) (fo : findObj K D od "__class__" = some (.bind (.builtin "getset_descriptor.__get__") (.builtin "object.__class__")))
    (mr : mroIn K D (.type "object") = some true) (fin : Q (.ref D) s) : wpAny (model prog w) A (call (.builtin "BaseException.__getattribute__") [.ref x, .str "__class__" tk]) Q E s := by
  have ty := at_.type (M := model prog w)
  have isB : Looks (model prog w) s.heap (isInstance (.ref x) (.type "BaseException")) true := ty.andThen (looks_subIn inK bs)
  have fd := looks_find (M := model prog w) inK at_ fo
  apply wpAny_call
  apply codeAny_call_builtin PySem.F.excAttr_ValueError.ga.plain PySem.F.entry_bexc_ga
  apply @check_slot (model prog w) _ _ s "BaseException.__getattribute__" "BaseException" "__getattribute__" (.ref x) [.str "__class__" tk] [] _ (by decide +kernel) (by decide +kernel) isB (PySem.F.args_bexc_ga _ _)
  unfold Builtin.«object.__getattribute__»
  apply wpAny_bind
  apply wpAny_of_eq (a := ((.ref x : Value), [.str "__class__" tk])) (by first | rfl | (simp only [slotArgs]; rfl))
  apply wpAny_bind
  apply wpAny_pure
  apply wpAny_bind
  apply ty.at
  apply wpAny_bind
  apply fd.at
  show wpAny _ _ (holding [.builtin "object.__class__"] (call (.builtin "getset_descriptor.__get__") [.builtin "object.__class__", .ref x, .ref D]) >>= ret) _ _ _
  apply wpAny_bind
  apply wpAny_holding
  apply wpAny_call
  apply class_get (s := s) (ox := ox) (od := od) inK at_ mr
  apply wpAny_pure
  exact fin
/-- x.__class__ of a refusal that is held, whatever dict it has -/
theorem held_cls {s : Shared} {Q : Option Value → Shared → Prop} (T1 : findIn K (.ref D) "__getattribute__" = some (some (.builtin "BaseException.__getattribute__"))) (T2 : findIn K (.ref D) "__getattr__" = some none) (T3 : subIn K (.ref D) (.type "BaseException") = some true) (T4 : (clsIn K D).isSome = true)
    (T5 : findIn K (.ref D) "__class__" = some (some (.builtin "object.__class__"))) (T6 : specialIn K (.builtin "object.__class__") "__get__" = some (some (.builtin "getset_descriptor.__get__"))) (T7 : takesIn K (.builtin "object.__class__") = some true) (T8 : mroIn K D (.type "object") = some true)
    (inK : K.In s.heap) (at_ : InstAt s.heap x ox D od) (fin : Q (some (.ref D)) { s with toks := s.toks + 1 }) : wpAny (model prog w) A (getAttr? (.ref x) "__class__") Q E s := by
  have ty := at_.type (M := model prog w)
  have l1 := looks_findIn (M := model prog w) inK T1
  have l2 := looks_findIn (M := model prog w) inK T2
  have other : ((.builtin "BaseException.__getattribute__" : Value) == .builtin "object.__getattribute__") = false := by decide +kernel
  unfold getAttr? getAttrBy? getAttrBy
  apply wpAny_bind
  apply wpAny_mkText
  apply wpAny_bind
  apply wpAny_attempt
  apply wpAny_holding
  apply wpAny_bind
  apply ty.at
  apply wpAny_bind
  apply l1.at
  show wpAny _ _ (ite ((onTheHeap (.ref D) && (.builtin "BaseException.__getattribute__" : Value) == .builtin "object.__getattribute__") = true) _ _) _ _ _
  rw [other, Bool.and_false, if_neg (by decide)]
  unfold getAttrByItsOwn hookBefore
  apply wpAny_bind
  have oh : onTheHeap (.ref D) = true := rfl
  rw [if_pos oh]
  apply l2.at
  apply wpAny_bind
  apply wpAny_attempt
  apply wpAny_holding
  unfold callGetattribute
  rw [if_neg (show ¬ (false && onTheHeap (.builtin "BaseException.__getattribute__")) = true from by decide)]
  unfold boundAndCalled
  rw [PySem.F.excAttr_ValueError.ga.bind (Value.ref x)]
  apply wpAny_bind
  apply wpAny_pure
  show wpAny _ _ (call (.builtin "BaseException.__getattribute__") [.ref x, .str "__class__" s.toks]) _ _ _
  refine held_ga (s := { s with toks := s.toks + 1 }) inK at_ T3 (held_place T4 T5 T6 T7) T8 ?_
  show wpAny _ _ (handedOut _) _ _ _
  rw [handedOut_of (v := .ref D) rfl]
  apply wpAny_pure
  first
    | exact wpAny_pure fin
    | exact wpAny_bind (wpAny_pure (wpAny_pure fin))
    | exact fin
/-- what isinstance looks at -/
theorem held_kit (T1 : findIn K (.ref D) "__getattribute__" = some (some (.builtin "BaseException.__getattribute__"))) (T2 : findIn K (.ref D) "__getattr__" = some none) (T3 : subIn K (.ref D) (.type "BaseException") = some true) (T0 : hasDictIn K D = true)
    (T5 : findIn K (.ref D) "__class__" = some (some (.builtin "object.__class__"))) (T6 : specialIn K (.builtin "object.__class__") "__get__" = some (some (.builtin "getset_descriptor.__get__"))) (T7 : takesIn K (.builtin "object.__class__") = some true) (T8 : mroIn K D (.type "object") = some true) :
    KitX K (.ref x) (.ref D) (fun h => InstAt h x ox D od) := by
  obtain ⟨cd, hcd, _⟩ := any_some T0
  have seen := hcd
  unfold clsIn at seen
  split at seen
  · rename_i c1 d1 cd1 sl1 at1
    constructor
    · exact fun _ _ _ J => J.type
    · intro hp _ inK _ A' Q' E' s' keep q
      unfold isType loadHead
      exact wpAny_bind (wpAny_loadPart (keep _ _ (inK _ _ at1)) (wpAny_pure q))
    · intro hp tp dd its n sl inK at2
      cases e : ((.ref D : Value) == .ref tp) with
      | false => rfl
      | true =>
        have e2 : D = tp := Value.ref.inj (beq_iff_eq.mp e)
        subst e2
        exact nomatch (inK _ _ at1).symm.trans at2
    · exact fun inK J keep => held_cls T1 T2 T3 (by rw [hcd]; rfl) T5 T6 T7 T8 inK J keep
  · cases seen
end
end PySem.W
namespace DL
open PySem PySem.Spec PyProof.Rows L2 TL
section
variable {Γ : Gam} {k : Nat} {N : List Str} {calm : Bool} {sc : Scope} {X : Cx} {W : WX}
/-! fields -/
theorem l_fld (G : GamOk X.prog X.w X.K X.mg X.base Γ k) {f : String} : ∀ Z H S x d Q Qv, Sim X.K Z H S → RepV X.K (fz Z H S) d x → fldD Γ f d S Q → Got X.K Z H S Q Qv →
    ∃ a C dx fs v, x = .ref a ∧ H a = some (.ins C dx fs) ∧ Cls X.K C ∧ NoAttr X.K C (Str.ofString f) ∧ fs.lookup (Str.ofString f) = some v ∧ Qv v H := by
  intro Z H S x d Q Qv s r ⟨c, fs, e, h1, h2, h3, q⟩ g
  obtain ⟨hC, hno⟩ := G.fl c f h2
  have key : ∀ {vs : List (Str × V)}, RepF X.K (fz Z H S) fs vs → ∃ v, vs.lookup (Str.ofString f) = some v ∧ Qv v H := fun {vs} hr => by
    rcases hr.look (m := f) with ⟨q1, _⟩ | ⟨d, v, q1, q2, q3⟩
    · rw [q1] at h3; cases h3
    · rw [q1] at h3; cases h3
      exact ⟨v, q2, g.here s q3 q⟩
  unfold insOf at h1
  split at h1
  · cases h1
    simp only [RepV] at r
    obtain ⟨r, dx, vs, k1, k2⟩ := r
    obtain ⟨v, k3, k4⟩ := key k2
    exact ⟨_, _, dx, vs, v, r, fz_sub _ _ k1, hC, hno, k3, k4⟩
  · split at h1
    · rename_i e2
      cases h1
      simp only [RepV] at r
      obtain ⟨dx, vs, k1, k2⟩ := s.cells _ _ e2
      obtain ⟨v, k3, k4⟩ := key k2
      exact ⟨_, _, dx, vs, v, r, k1, hC, hno, k3, k4⟩
    · cases h1
  · cases h1
/-- the fields of a refusal that is held -/
def rXf (K : PySem.W.Frag) (f : Str) : V → Hp → VK → Prop := fun x H Q => ∃ a C dd fs v, x = .ref a ∧ ExcF K C ∧ PySem.W.findIn K (.ref C) f = some none ∧ H a = some (excHO (.ref C) (some dd) a) ∧ H dd = some (.xd fs) ∧ fs.lookup f = some v ∧ Q v H
theorem pe_xfl {e : Expr} {f : Str} {pos : Pos} {te : TE} (he : PE X e te) (hb : attributeBase e f X.env (eval e X.env) = eval e X.env) : PE X (.Attribute e f pos) (fun σ H Q => te σ H fun x H1 => rXf X.K f x H1 Q) := by
  constructor
  intro pn s0 sv H Q I h
  apply attr_of hb
  refine thn (he.run pn s0 sv H _ I h) fun u s1 hh => ?_
  obtain ⟨x, H1, I1, rx, a, C, dd, fs, v, ex, T, hno, ea, ed, l, q⟩ := hh
  subst ex
  obtain rfl : u = Value.ref a := rx
  obtain ⟨⟨oe, vs, ha, hz, hd⟩, _⟩ := I1.hok a _ ea
  have hx : ObjOk X.prog X.w H1 s1.heap dd (.xd fs) := I1.hok dd _ ed
  obtain ⟨mA, hns, hr⟩ := hx
  obtain ⟨od, ho, hl⟩ := lookIn_ns hns
  obtain ⟨u, hu, ru⟩ := RelO.some_of (v := v) (o := mA f) (by rw [← l]; exact hr f)
  have J : PySem.W.InstAt s1.heap a oe C (some od) := ⟨ha, hz.1, by simp only [PySem.W.notCls, hd], hz.2 ▸ ho⟩
  exact HandSPX.exc_get I1.kIn J T.ga T.gt T.sub (PySem.W.findObj_own T.hd hno rfl (by rw [hl, hu])) (handed_of ru) ⟨v, H1, I1.tok _, ru, q⟩
theorem l_xfld (G : GamOk X.prog X.w X.K X.mg X.base Γ k) {f : String} : ∀ Z H S x d Q Qv, Sim X.K Z H S → RepV X.K (fz Z H S) d x → xfldD Γ f d S Q → Got X.K Z H S Q Qv → rXf X.K (Str.ofString f) x H Qv := by
  intro Z H S x d Q Qv s r h g
  unfold xfldD at h
  split at h
  · rename_i a c fs
    obtain ⟨h1, v, h2, q⟩ := h
    obtain ⟨k1, k2⟩ := G.fx c f h1
    simp only [RepV] at r
    obtain ⟨rx, d, r1, r2⟩ := r
    rcases r2 with ⟨r2, _⟩ | ⟨dd, vs, r2, r3, r4⟩
    · rw [r2] at h2; simp at h2
    · subst r2
      rcases r4.look (m := f) with ⟨q1, _⟩ | ⟨d2, v2, q1, q2, q3⟩
      · rw [q1] at h2; cases h2
      · rw [q1] at h2; cases h2
        exact ⟨_, _, dd, vs, v2, rx, (G.ex c k1).1, k2, fz_sub _ _ r1, fz_sub _ _ r3, q2, g.here s q3 q⟩
  · exact h.elim
/-! isinstance -/
theorem nice_name (x : Str) (p : Pos) : nice (.Name x p) = true := rfl
theorem boot_is : bootBuiltins (Str.ofString "isinstance") = some (.builtin "isinstance") := by decide +kernel
theorem boot_ty : ∀ T ∈ ["bool", "int", "str", "list", "tuple"], bootBuiltins (Str.ofString T) = some (.type T) := by decide +kernel
theorem ty_in : ∀ T ∈ ["bool", "int", "str", "list", "tuple"], T ∈ biNames := by decide
theorem pe_isin (G : Good Γ k N calm sc X) {x y : Str} {p q pos : Pos} {o : Expr} {ro : RV} {T : String} (hx : glB sc x "isinstance" = true) (hy : glB sc y T = true) (hT : ["bool", "int", "str", "list", "tuple"].contains T = true) (hn : nice o = true)
    (ho : PE X o (tE X.K W ro)) : PE X (.Call (.Name x p) [o, .Name y q] [] pos) (tE X.K W (r1 ro (isinD T))) := by
  obtain ⟨e1, hg, hd, _, hnn⟩ := G.gl hx
  obtain ⟨e2, hg2, hd2, _, hnn2⟩ := G.gl hy
  have hT' : T ∈ ["bool", "int", "str", "list", "tuple"] := by simpa using hT
  subst e1 e2
  have hty : PE X (.Name (Str.ofString T) q) (tC (.ty T)) := pe_bltn hg2 (G.gam.bi T (ty_in T hT')) (boot_ty T hT') rfl hnn2 hd2
  refine (pe_callB call_isi hg (G.gam.bi _ (by decide)) boot_is (pa_cons ho (pa_cons hty pa_nil (nice_star rfl _ _)) (nice_star hn _ _)) hnn hd (nice_star hn _ _) (nostar _ _ rfl)).imp fun σ H Q h => ?_
  refine tE_1 (r := fun x H Q => rIsi X.K [x, .ty T] H Q) ?_ h
  intro Z H S x d Q Qv s r ⟨t, ht, q⟩ g
  exact ⟨x, .ty T, _, _, _, rfl, .ty T, tyD_ok s r ht, kit_ty (kit_sub t (tyD_in ht) T hT'), g.here s (by simp only [RepV]) q⟩
/-- isinstance of a refusal that is held -/
def rIsX (K : PySem.W.Frag) : List V → Hp → VK → Prop := fun xs H Q => ∃ (a C : Addr) (d : Option Addr) (c : V) (u : Value) (b : Bool), xs = [.ref a, c] ∧ ClsV c u ∧ ExcF K C ∧ H a = some (excHO (.ref C) d a) ∧ (∀ dd, d = some dd → ∃ fs, H dd = some (.xd fs)) ∧ PySem.W.kitOne K (.ref C) u = some b ∧ Q (.bl b) H
theorem call_isX : CallR X (.builtin "isinstance") (rIsX X.K) := by
  intro pins s σ H xs us Q I r h
  obtain ⟨a, C, d, c, u, b, rfl, kc, T, ea, ed, e, q⟩ := h
  obtain ⟨u1, u2, rfl, r1, r2⟩ := vals2 r
  have e2 := kc.eq r2
  subst e2
  obtain rfl : u1 = Value.ref a := r1
  obtain ⟨⟨oe, vs, ha, hz, hd⟩, _⟩ := I.hok a _ ea
  obtain ⟨od, J⟩ : ∃ od, PySem.W.InstAt s.heap a oe C od := by
    cases d with
    | none => exact ⟨none, ha, hz.1, by unfold PySem.W.notCls; rw [hd] <;> rfl, by rw [hz.2]; trivial⟩
    | some dd =>
      obtain ⟨fs, e3⟩ := ed dd rfl
      obtain ⟨mA, hns, _⟩ := (show ObjOk X.prog X.w H s.heap dd (.xd fs) from I.hok dd _ e3)
      obtain ⟨od, ho, _⟩ := lookIn_ns hns
      exact ⟨some od, ha, hz.1, by unfold PySem.W.notCls; rw [hd] <;> rfl, by rw [hz.2]; exact ho⟩
  exact PySem.W.kia_one (PySem.W.held_kit T.ga T.gt T.sub T.hd T.cl T.gd T.tk T.mro) I.kIn J e (fun z => nomatch z) fun tk => ⟨.bl b, H, I.tok tk, rfl, q⟩
theorem pe_isex (G : Good Γ k N calm sc X) {x y : Str} {p q pos : Pos} {o : Expr} {ro : RV} {T : String} (hx : glB sc x "isinstance" = true) (hy : glB sc y T = true) (hT : (exAll.contains T || T == "ValueError") = true) (hn : nice o = true)
    (ho : PE X o (tE X.K W ro)) : PE X (.Call (.Name x p) [o, .Name y q] [] pos) (tE X.K W (r1 ro (isexD T))) := by
  obtain ⟨e1, hg, hd, _, hnn⟩ := G.gl hx
  obtain ⟨e2, hg2, hd2, _, hnn2⟩ := G.gl hy
  subst e1 e2
  obtain ⟨c, u, hcl, hkit, hty⟩ : ∃ (c : V) (u : Value), ClsV c u ∧ (∀ n ∈ exNames, PySem.W.kitOne X.K (.ref (He.ga X.K (Str.ofString n))) u = some (subEx n T)) ∧ PE X (.Name (Str.ofString T) q) (tC c) := by
    rcases Bool.or_eq_true_iff.mp hT with h | h
    · have h' : T ∈ exAll := by simpa using h
      refine ⟨.ref (He.ga X.K (Str.ofString T)), _, .own _, fun n hn => ((G.gam.ex n hn).2 T h').2.1, ?_⟩
      exact pe_glob hg2 ((G.gam.ex "Fault" (by decide)).2 T h').1 rfl hd2
    · have h' : T = "ValueError" := by simpa using h
      subst h'
      refine ⟨.ty "ValueError", _, .ty _, fun n hn => ?_, ?_⟩
      · rw [G.gam.exV n hn]
        unfold subEx
        simp
      · exact pe_bltn hg2 G.gam.noV (by decide +kernel) rfl hnn2 hd2
  refine (pe_callB call_isX hg (G.gam.bi _ (by decide)) boot_is (pa_cons ho (pa_cons hty pa_nil (nice_star rfl _ _)) (nice_star hn _ _)) hnn hd (nice_star hn _ _) (nostar _ _ rfl)).imp fun σ H Q h => ?_
  refine tE_1 (r := fun x H Q => rIsX X.K [x, c] H Q) ?_ h
  intro Z H S x d Q Qv s r q g
  unfold isexD at q
  split at q
  · rename_i a n fs
    obtain ⟨hn, q⟩ := q
    have hn' : n ∈ exNames := by simpa using hn
    simp only [RepV] at r
    obtain ⟨rx, d, r1, r2⟩ := r
    subst rx
    refine ⟨a, _, d, c, u, _, rfl, hcl, (G.gam.ex n hn').1, fz_sub _ _ r1, fun dd hdd => ?_, hkit n hn', g.here s (by simp only [RepV]) q⟩
    rcases r2 with ⟨_, r2⟩ | ⟨dd', vs, r2, r3, _⟩
    · rw [r2] at hdd; cases hdd
    · rw [r2] at hdd; cases hdd
      exact ⟨vs, fz_sub _ _ r3⟩
  · exact q.elim
end
end DL

set_option linter.all false
set_option autoImplicit false
set_option maxHeartbeats 1000000
namespace DL
open PySem PySem.Spec PyProof.Rows L2 TL
/-! ### hidden things -/
section
variable {K : PySem.W.Frag} {Z H : Hp} {S : DS} {D : Addr} {o o' : HO}
theorem Sim.hide (s : Sim K Z H S) (h : H D = none) (o : HO) : Sim K (upd Z D o) (upd H D o) S ∧ Same (fz Z H S) (fz (upd Z D o) (upd H D o) S) := by
  obtain ⟨hS, hZ⟩ := s.fresh h
  have e : Same (fz Z H S) (fz (upd Z D o) (upd H D o) S) := fun b u hb => by
    obtain ⟨h1, h2, h3⟩ := fz_some hb
    have hne : b ≠ D := ne_of_none h3 h
    exact fz_of h1 (by rw [L2.upd_ne hne]; exact h2) (by rw [L2.upd_ne hne]; exact h3)
  refine ⟨⟨fun b u hb => ?_, fun b u hb => ?_, fun b c hb => ?_⟩, e⟩
  · by_cases hbD : b = D
    · subst hbD
      rw [L2.upd_same] at hb ⊢
      exact hb
    · rw [L2.upd_ne hbD] at hb ⊢
      exact s.zH b u hb
  · by_cases hbD : b = D
    · subst hbD; exact hS
    · rw [L2.upd_ne hbD] at hb
      exact s.zS b u hb
  · have hne : b ≠ D := fun q => by rw [q, hS] at hb; cases hb
    exact (s.cells b c hb).mono e (L2.upd_ne hne)
theorem Sim.rehide (s : Sim K (upd Z D o) H S) (o' : HO) : Sim K (upd Z D o') (upd H D o') S ∧ Same (fz (upd Z D o) H S) (fz (upd Z D o') (upd H D o') S) := by
  have hS : S D = none := s.zS D o L2.upd_same
  have e : Same (fz (upd Z D o) H S) (fz (upd Z D o') (upd H D o') S) := fun b u hb => by
    obtain ⟨h1, h2, h3⟩ := fz_some hb
    have hne : b ≠ D := fun q => by rw [q, L2.upd_same] at h2; cases h2
    rw [L2.upd_ne hne] at h2
    exact fz_of h1 (by rw [L2.upd_ne hne]; exact h2) (by rw [L2.upd_ne hne]; exact h3)
  refine ⟨⟨fun b u hb => ?_, fun b u hb => ?_, fun b c hb => ?_⟩, e⟩
  · by_cases hbD : b = D
    · subst hbD
      rw [L2.upd_same] at hb ⊢
      exact hb
    · rw [L2.upd_ne hbD] at hb ⊢
      exact s.zH b u (by rw [L2.upd_ne hbD]; exact hb)
  · by_cases hbD : b = D
    · subst hbD; exact hS
    · rw [L2.upd_ne hbD] at hb
      exact s.zS b u (by rw [L2.upd_ne hbD]; exact hb)
  · have hne : b ≠ D := fun q => by rw [q, hS] at hb; cases hb
    exact (s.cells b c hb).mono e (L2.upd_ne hne)
theorem Sim.show (s : Sim K (upd Z D o) H S) (hZ : Z D = none) : Sim K Z H S ∧ Same (fz (upd Z D o) H S) (fz Z H S) ∧ fz Z H S D = some o := by
  have hS : S D = none := s.zS D o L2.upd_same
  have hH : H D = some o := s.zH D o L2.upd_same
  have e : Same (fz (upd Z D o) H S) (fz Z H S) := fun b u hb => by
    obtain ⟨h1, h2, h3⟩ := fz_some hb
    have hne : b ≠ D := fun q => by rw [q, L2.upd_same] at h2; cases h2
    rw [L2.upd_ne hne] at h2
    exact fz_of h1 h2 h3
  refine ⟨⟨fun b u hb => ?_, fun b u hb => ?_, fun b c hb => ?_⟩, e, fz_of hS hZ hH⟩
  · have hne : b ≠ D := fun q => by rw [q, hZ] at hb; cases hb
    exact s.zH b u (by rw [L2.upd_ne hne]; exact hb)
  · have hne : b ≠ D := fun q => by rw [q, hZ] at hb; cases hb
    exact s.zS b u (by rw [L2.upd_ne hne]; exact hb)
  · exact (s.cells b c hb).mono e rfl
theorem Sim.live (s : Sim K (upd Z D o) H S) (hZ : Z D = none) (c : Cell) (hc : CellR K (fz (upd Z D o) H S) H D c) : Sim K Z H (S.upd D c) ∧ Same (fz (upd Z D o) H S) (fz Z H (S.upd D c)) ∧ S D = none := by
  have hS : S D = none := s.zS D o L2.upd_same
  have e : Same (fz (upd Z D o) H S) (fz Z H (S.upd D c)) := fun b u hb => by
    obtain ⟨h1, h2, h3⟩ := fz_some hb
    have hne : b ≠ D := fun q => by rw [q, L2.upd_same] at h2; cases h2
    rw [L2.upd_ne hne] at h2
    exact fz_of (by rw [DS.upd_ne hne]; exact h1) h2 h3
  refine ⟨⟨fun b u hb => ?_, fun b u hb => ?_, fun b c' hb => ?_⟩, e, hS⟩
  · have hne : b ≠ D := fun q => by rw [q, hZ] at hb; cases hb
    exact s.zH b u (by rw [L2.upd_ne hne]; exact hb)
  · have hne : b ≠ D := fun q => by rw [q, hZ] at hb; cases hb
    rw [DS.upd_ne hne]
    exact s.zS b u (by rw [L2.upd_ne hne]; exact hb)
  · by_cases hbD : b = D
    · subst hbD
      rw [DS.upd_same] at hb; cases hb
      exact hc.mono e rfl
    · rw [DS.upd_ne hbD] at hb
      exact (s.cells b c' hb).mono e rfl
end
/-! ### what is walked -/
/-- J walks these items, at every state in which they are what they were -/
structure WalkJ (K : PySem.W.Frag) (J : It) (k : ItK) (ds items : List D) (vs : List V) : Prop where
  go : ∀ Z H S i d, Sim K Z H S → RepL K (fz Z H S) ds vs → itemsOf k ds S = some items → items[i]? = some d → J.go i H ∧ ∀ x H', J.yld i H x H' → H' = H ∧ RepV K (fz Z H S) d x
  stop : ∀ Z H S i, Sim K Z H S → RepL K (fz Z H S) ds vs → itemsOf k ds S = some items → items[i]? = none → J.stop i H
def iSeq (K : PySem.W.Frag) (tl : TE) : TI := fun σ H R => tl σ H fun x H1 => (∃ a, x = .ref a ∧ (∃ xs, SqL K H1 a xs) ∧ R (Itl K a) H1) ∨ (∃ a, x = .ref a ∧ (∃ xs, SqT K H1 a xs) ∧ R (Itt K a) H1) ∨ ∃ z, x = .str z ∧ R (Its z) H1
theorem pi_seq {X : Cx} {tg l : Expr} {tl : TE} (hl : PE X l tl) : PI X tg l (iSeq X.K tl) := by
  constructor
  intro pn s0 sv G R I hw
  apply thn (hl.run pn s0 sv G _ I hw)
  rintro u s1 ⟨y, G1, I1, ru, hc⟩
  rcases hc with ⟨a, rfl, ⟨xs, hx⟩, q⟩ | ⟨a, rfl, ⟨xs, hx⟩, q⟩ | ⟨z, rfl, q⟩
  · have eu : u = .ref a := ru
    subst eu
    obtain ⟨its, _, isl, _⟩ := I1.list hx
    exact wpAny_pyIter_list isl.isList (pi_one (tk := s1.toks) I1 _ (turn_list a _) ⟨_, Heap.get?_push_size _ rfl, rfl, rfl⟩ q)
  · have eu : u = .ref a := ru
    subst eu
    obtain ⟨its, _, ist, _⟩ := I1.tuple hx
    exact wpAny_pyIter_tuple (show Heap.IsTuple s1.heap a its.toArray from ist) (pi_one (tk := s1.toks) I1 _ (turn_tuple a _) ⟨_, Heap.get?_push_size _ rfl, rfl, rfl⟩ q)
  · obtain ⟨tk, rfl⟩ := ru
    by_cases ha : z.cps.all (· < 128) = true
    · exact wpAny_pyIter_ascii ha (pi_one (tk := s1.toks) I1 _ (turn_str _ z tk "str_ascii_iterator" (.inl rfl)) ⟨_, Heap.get?_push_size _ rfl, rfl, rfl⟩ q)
    · exact wpAny_pyIter_wide (by simpa using ha) (pi_one (tk := s1.toks) I1 _ (turn_str _ z tk "str_iterator" (.inr rfl)) ⟨_, Heap.get?_push_size _ rfl, rfl, rfl⟩ q)
/-- the walk of a value -/
theorem walk_seq {K : PySem.W.Frag} {Z H : Hp} {S : DS} {d : D} {items : List D} {x : V} {R : It → Hp → Prop} (s : Sim K Z H S) (r : RepV K (fz Z H S) d x) (h : itemsOf .seq [d] S = some items)
    (hR : ∀ J, WalkJ K J .seq [d] items [x] → R J H) : (∃ a, x = .ref a ∧ (∃ xs, SqL K H a xs) ∧ R (Itl K a) H) ∨ (∃ a, x = .ref a ∧ (∃ xs, SqT K H a xs) ∧ R (Itt K a) H) ∨ ∃ z, x = .str z ∧ R (Its z) H := by
  have lst : ∀ {a : Addr}, (∀ Z H S ds, Sim K Z H S → RepV K (fz Z H S) d x → itemsOf .seq [d] S = some ds → ∃ vs, SqL K H a vs ∧ RepL K (fz Z H S) ds vs) → WalkJ K (Itl K a) .seq [d] items [x] := fun {a} hq => by
    constructor
    · intro Z H S i e s' r' h' hi
      obtain ⟨v0, ev, r1⟩ := r'.inv1
      cases ev
      obtain ⟨vs, h1, h2⟩ := hq Z H S items s' r1 h'
      obtain ⟨y, k1, k2⟩ := h2.get hi
      refine ⟨⟨vs, y, h1, k1⟩, fun z H' ⟨e1, e2⟩ => ⟨e1, ?_⟩⟩
      have := e2 vs h1
      rw [k1] at this; cases this
      exact k2
    · intro Z H S i s' r' h' hi
      obtain ⟨v0, ev, r1⟩ := r'.inv1
      cases ev
      obtain ⟨vs, h1, h2⟩ := hq Z H S items s' r1 h'
      exact ⟨vs, h1, by rw [h2.length]; exact List.getElem?_eq_none_iff.mp hi⟩
  have tup : ∀ {a : Addr}, (∀ Z H S ds, Sim K Z H S → RepV K (fz Z H S) d x → itemsOf .seq [d] S = some ds → ∃ vs, SqT K H a vs ∧ RepL K (fz Z H S) ds vs) → WalkJ K (Itt K a) .seq [d] items [x] := fun {a} hq => by
    constructor
    · intro Z H S i e s' r' h' hi
      obtain ⟨v0, ev, r1⟩ := r'.inv1
      cases ev
      obtain ⟨vs, h1, h2⟩ := hq Z H S items s' r1 h'
      obtain ⟨y, k1, k2⟩ := h2.get hi
      refine ⟨⟨vs, y, h1, k1⟩, fun z H' ⟨e1, e2⟩ => ⟨e1, ?_⟩⟩
      have := e2 vs h1
      rw [k1] at this; cases this
      exact k2
    · intro Z H S i s' r' h' hi
      obtain ⟨v0, ev, r1⟩ := r'.inv1
      cases ev
      obtain ⟨vs, h1, h2⟩ := hq Z H S items s' r1 h'
      exact ⟨vs, h1, by rw [h2.length]; exact List.getElem?_eq_none_iff.mp hi⟩
  cases d with
  | str t =>
    simp only [RepV] at r
    obtain ⟨rx, ok⟩ := r
    simp only [itemsOf, Option.some.injEq] at h
    refine .inr (.inr ⟨_, rx, hR _ ?_⟩)
    subst h
    constructor
    · intro Z H S i e s' r' h' hi
      rw [List.getElem?_map] at hi
      cases hc : t[i]? with
      | none => rw [hc] at hi; cases hi
      | some c =>
        rw [hc] at hi
        cases hi
        have hc' : (tS t).cps[i]? = some c := by unfold tS; simpa using hc
        have hlt : i < (tS t).cps.size := by
          have := (List.getElem?_eq_some_iff.mp hc).1
          unfold tS; simpa using this
        refine ⟨hlt, fun z H' ⟨e1, c', k1, k2⟩ => ⟨e1, ?_⟩⟩
        rw [hc'] at k1; cases k1
        subst k2
        simp only [RepV]
        exact ⟨rfl, ok.one (List.mem_of_getElem? hc)⟩
    · intro Z H S i s' r' h' hi
      rw [List.getElem?_eq_none_iff, List.length_map] at hi
      show (tS t).cps.size ≤ i
      unfold tS; simpa using hi
  | lst ds =>
    simp only [RepV] at r
    obtain ⟨a, vs, h1, h2, h3⟩ := r
    refine .inl ⟨a, h1, ⟨vs, SqL.of (fz_sub _ _ h2)⟩, hR _ (lst fun Z H S es s' r' h' => ?_)⟩
    simp only [itemsOf, asSq, Option.some.injEq] at h'
    simp only [RepV] at r'
    obtain ⟨a', vs', k1, k2, k3⟩ := r'
    rw [h1] at k1; cases k1
    subst h'
    exact ⟨vs', SqL.of (fz_sub _ _ k2), k3⟩
  | tup ds =>
    simp only [RepV] at r
    obtain ⟨a, vs, h1, h2, h3⟩ := r
    refine .inr (.inl ⟨a, h1, ⟨vs, seqT_mono fz_sub h2⟩, hR _ (tup fun Z H S es s' r' h' => ?_)⟩)
    simp only [itemsOf, asSq, Option.some.injEq] at h'
    simp only [RepV] at r'
    obtain ⟨a', vs', k1, k2, k3⟩ := r'
    rw [h1] at k1; cases k1
    subst h'
    exact ⟨vs', seqT_mono fz_sub k2, k3⟩
  | ref a =>
    simp only [RepV] at r
    have key : ∀ {Z H : Hp} {S : DS} {es : List D}, Sim K Z H S → itemsOf .seq [.ref a] S = some es → ∃ vs, H a = some (.lst vs) ∧ RepL K (fz Z H S) es vs := fun {Z H S es} s' h' => by
      simp only [itemsOf, asSq] at h'
      split at h'
      · rename_i e2
        cases h'
        exact s'.cells a _ e2
      · cases h'
    obtain ⟨vs, h1, h2⟩ := key s h
    refine .inl ⟨a, r, ⟨vs, SqL.of h1⟩, hR _ (lst fun Z H S es s' r' h' => ?_)⟩
    obtain ⟨vs, h1, h2⟩ := key s' h'
    exact ⟨vs, SqL.of h1, h2⟩
  | non => simp [itemsOf, asSq] at h
  | bl _ => simp [itemsOf, asSq] at h
  | int _ => simp [itemsOf, asSq] at h
  | dct _ => simp [itemsOf, asSq] at h
  | ins _ _ _ => simp [itemsOf, asSq] at h
  | exc _ _ _ => simp [itemsOf, asSq] at h
  | scr _ => simp [itemsOf, asSq] at h
theorem walk_rng {K : PySem.W.Frag} {k : ItK} {ds : List D} {vs : List V} {lo : Int} {n : Nat} : ∀ {items : List D}, items = (List.range n).map (fun i => D.int (lo + Int.ofNat i)) → WalkJ K (Itr lo n) k ds items vs := fun {items} e => by
  subst e
  constructor
  · intro Z H S i d _ _ _ hi
    rw [List.getElem?_map] at hi
    cases hc : (List.range n)[i]? with
    | none => rw [hc] at hi; cases hi
    | some j =>
      rw [hc] at hi
      cases hi
      obtain ⟨h1, h2⟩ := List.getElem?_eq_some_iff.mp hc
      rw [List.getElem_range] at h2
      rw [List.length_range] at h1
      subst h2
      exact ⟨h1, fun x H' ⟨e1, e2⟩ => ⟨e1, by simp only [RepV]; exact e2⟩⟩
  · intro Z H S i _ _ _ hi
    rw [List.getElem?_eq_none_iff, List.length_map, List.length_range] at hi
    exact hi
/-! ### targets -/
def setV (σ : L2.St) : List Nat → List V → L2.St
  | i :: is, v :: vs => setV (σ.set i (some v)) is vs
  | _, _ => σ
def gOf (K : PySem.W.Frag) : XTg → TG
  | .name i => gName i
  | .tup is => fun v σ H Q => ∃ a xs, v = .ref a ∧ (SqL K H a xs ∨ SqT K H a xs) ∧ xs.length = is.length ∧ Q (setV σ is xs) H
theorem Sts.set {K : PySem.W.Frag} {F : Hp} {σ : St0} {σV : StV} (h : Sts K F σ σV) {i : Nat} {d : D} {v : V} (r : RepV K F d v) : Sts K F (σ.set i (some d)) (σV.set i (some v)) := by
  refine ⟨by rw [List.length_set, List.length_set]; exact h.1, fun j e hj => ?_⟩
  by_cases hij : i = j
  · subst hij
    by_cases hl : i < σ.length
    · rw [List.getElem?_set_self hl] at hj
      cases hj
      exact ⟨v, by rw [List.getElem?_set_self (by rw [← h.1]; exact hl)], r⟩
    · rw [List.getElem?_eq_none (by simpa using hl)] at hj
      cases hj
  · rw [List.getElem?_set_ne hij] at hj ⊢
    exact h.2 j e hj
theorem Sts.unset {K : PySem.W.Frag} {F : Hp} {σ : St0} {σV : StV} (h : Sts K F σ σV) (i : Nat) : Sts K F (σ.set i none) (σV.set i none) := by
  refine ⟨by rw [List.length_set, List.length_set]; exact h.1, fun j e hj => ?_⟩
  by_cases hij : i = j
  · subst hij
    by_cases hl : i < σ.length
    · rw [List.getElem?_set_self hl] at hj
      cases hj
    · rw [List.getElem?_eq_none (by simpa using hl)] at hj
      cases hj
  · rw [List.getElem?_set_ne hij] at hj ⊢
    exact h.2 j e hj
theorem Sts.wipe {K : PySem.W.Frag} {F : Hp} {σ : St0} {σV : StV} (h : Sts K F σ σV) : ∀ is : List Nat, Sts K F (wipeS σ is) (L2.wipe σV is)
  | [] => h
  | i :: is => (Sts.wipe h is).unset i
theorem Sts.sets {K : PySem.W.Frag} {F : Hp} : ∀ {is : List Nat} {ds : List D} {vs : List V} {σ : St0} {σV : StV}, Sts K F σ σV → RepL K F ds vs → Sts K F (setS σ is ds) (setV σV is vs)
  | [], _, _, _, _, h, _ => by unfold setS setV; exact h
  | i :: is, [], vs, _, _, h, r => by simp only [RepL] at r; subst r; unfold setS setV; exact h
  | i :: is, d :: ds, vs, σ, σV, h, r => by
    simp only [RepL] at r
    obtain ⟨v, w, h1, h2, h3⟩ := r
    subst h1
    unfold setS setV
    exact Sts.sets (h.set h2) h3
/-- a target, on both sides -/
theorem l_tg {K : PySem.W.Frag} {Z H : Hp} {S : DS} {t : XTg} {d : D} {x : V} {σ : St0} {σV : StV} {C : St0 → Prop} {Q : StV → Hp → Prop} (s : Sim K Z H S) (st : Sts K (fz Z H S) σ σV) (r : RepV K (fz Z H S) d x) (h : bindT S t d σ C)
    (hq : ∀ σ' σV', Sts K (fz Z H S) σ' σV' → C σ' → L2.wipe σV' t.slots = L2.wipe σV t.slots → Q σV' H) : gOf K t x σV H Q := by
  have wset : ∀ (i : Nat) (v : V) (is : List Nat), i ∈ is → ∀ σV : StV, L2.wipe (σV.set i (some v)) is = L2.wipe σV is := by
    intro i v is
    induction is with
    | nil => intro h; simp at h
    | cons j js ih =>
      intro h σV
      unfold L2.wipe
      by_cases hij : i = j
      · subst hij
        have gen : ∀ (js : List Nat) (σV : StV), (L2.wipe (σV.set i (some v)) js).set i none = (L2.wipe σV js).set i none := by
          intro js
          induction js with
          | nil => intro σV; unfold L2.wipe; rw [List.set_set]
          | cons k ks ih2 =>
            intro σV
            unfold L2.wipe
            by_cases hik : i = k
            · subst hik; rw [ih2]
            · rw [List.set_comm _ _ (Ne.symm hik), ih2, List.set_comm _ _ hik]
        exact gen js σV
      · rw [ih ((List.mem_cons.mp h).resolve_left hij)]
  cases t with
  | name i => exact hq _ _ (st.set r) h (wset i x [i] (by simp) σV)
  | tup is =>
    obtain ⟨ds, e, hl, hc⟩ := h
    obtain ⟨a, vs, h1, h2, h3⟩ := asSq_ok s r e
    refine ⟨a, vs, h1, h2, by rw [h3.length]; exact hl, hq _ _ (st.sets h3) hc ?_⟩
    have gen : ∀ (js : List Nat) (vs : List V) (σV : StV), (∀ j ∈ js, j ∈ is) → L2.wipe (setV σV js vs) is = L2.wipe σV is := by
      intro js
      induction js with
      | nil => intro vs σV _; unfold setV; rfl
      | cons j js ih =>
        intro vs σV hj
        cases vs with
        | nil => unfold setV; rfl
        | cons v vs =>
          unfold setV
          rw [ih vs _ (fun k hk => hj k (List.mem_cons_of_mem _ hk))]
          exact wset j v is (hj j (by simp)) σV
    exact gen is vs σV fun j hj => hj
section
variable {X : Cx} {sc : Scope}
/-- the names of a target can be stored -/
theorem pgs_of (nd : X.N.Nodup) (hf : ∀ x, isLoc (sc.names.lookup x) = true → Loc X.env.scope x ∧ (X.fn x = true ∨ X.env.scope.names.lookup x = some .local)) : ∀ {is : List Nat} {es : List Expr}, tgNs X.N sc is es = true →
    PGs X es (fun vs σ H Q => vs.length = is.length ∧ Q (setV σ is vs) H) ∧ (assignEach es X.env).length = is.length ∧ (assignEach es X.env).findIdx? (·.1) = none
  | [], [], _ => ⟨⟨fun pins s σ H vs us Q I r ⟨h1, h2⟩ => by
      have e : vs = [] := List.length_eq_zero_iff.mp h1
      subst e
      exact (pgs_nil (X := X)).run pins s σ H [] us Q I r ⟨rfl, by unfold setV at h2; exact h2⟩⟩, rfl, rfl⟩
  | i :: is, e :: es, h => by
    unfold tgNs at h
    rw [Bool.and_eq_true] at h
    obtain ⟨h1, h2⟩ := h
    obtain ⟨q1, q2, q3⟩ := pgs_of nd hf h2
    cases e with
    | Name x p =>
      unfold tgN at h1
      simp only [Bool.and_eq_true, decide_eq_true_eq] at h1
      obtain ⟨l1, l2⟩ := hf x h1.2
      refine ⟨⟨fun pins s σ H vs us Q I r ⟨k1, k2⟩ => ?_⟩, ?_, ?_⟩
      · cases vs with
        | nil => simp at k1
        | cons v vs =>
          refine (pgs_cons (pg_name nd h1.1 l1 l2) q1).run pins s σ H (v :: vs) us Q I r ⟨v, vs, rfl, ?_, ?_⟩
          · simpa using k1
          · unfold setV at k2; exact k2
      · show (assignEach es X.env).length + 1 = _
        rw [q2]; rfl
      · show ((false, _) :: assignEach es X.env).findIdx? (·.1) = none
        rw [List.findIdx?_cons]
        simp only [Bool.false_eq_true, if_false, q3]
        rfl
    | _ => cases h1
  | [], _ :: _, h => by cases h
  | _ :: _, [], h => by cases h
theorem pg_of (nd : X.N.Nodup) (hc : X.calm = true) (hf : ∀ x, isLoc (sc.names.lookup x) = true → Loc X.env.scope x ∧ (X.fn x = true ∨ X.env.scope.names.lookup x = some .local)) {t : XTg} {e : Expr} (h : tgB X.N sc t e = true) : PG X e (gOf X.K t) := by
  cases t with
  | name i =>
    cases e with
    | Name x p =>
      unfold tgB tgN at h
      simp only [Bool.and_eq_true, decide_eq_true_eq] at h
      obtain ⟨l1, l2⟩ := hf x h.2
      exact pg_name nd h.1 l1 l2
    | _ => cases h
  | tup is =>
    cases e with
    | Tuple es k p =>
      unfold tgB at h
      obtain ⟨q1, q2, q3⟩ := pgs_of nd hf h
      refine ⟨fun pins s σ H v u Q I r hw => ?_⟩
      obtain ⟨a, xs, e1, hq | hq, hl, q⟩ := hw
      · exact (pg_lst hc q1 q2 q3).run pins s σ H v u Q I r ⟨a, xs, e1, hq, hl, hl, q⟩
      · exact (pg_tup hc q1 q2 q3).run pins s σ H v u Q I r ⟨a, xs, e1, hq, hl, hl, q⟩
    | _ => cases h
end
end DL

set_option linter.all false
set_option autoImplicit false
set_option maxHeartbeats 1000000
namespace DL
open PySem PySem.Spec PyProof.Rows L2 TL
theorem compD_mono {stay : DS → Prop} {f : D → DS → (Option D → DS → Prop) → Prop} (hf : ∀ d S C C', (∀ o S', C o S' → C' o S') → f d S C → f d S C') : ∀ {items : List D} {S : DS} {K0 K1 : List D → DS → Prop}, (∀ o S', K0 o S' → K1 o S') → compD stay f items S K0 → compD stay f items S K1
  | [], S, K0, K1, h, q => ⟨q.1, h _ _ q.2⟩
  | d :: ds, S, K0, K1, h, q => ⟨q.1, hf d S _ _ (fun o S' z => compD_mono hf (fun o2 S2 z2 => h _ _ z2) z) q.2⟩
abbrev W0 : WX := fun _ _ _ _ => False
def ttOf (K : PySem.W.Frag) : Option RT → TT
  | none => tYes
  | some c => tT K W0 c
theorem l_comp {K : PySem.W.Frag} {J : It} {k : ItK} {ds items : List D} {vs : List V} {Z H : Hp} {S : DS} {σ : St0} {σV : StV} {tg : XTg} {elt : RV} {cond : Option RT} {live : Bool} {Q : QD} {Qv : VK}
    (wj : WalkJ K J k ds items vs) (s : Sim K Z H S) (st : Sts K (fz Z H S) σ σV) (rs : RepL K (fz Z H S) ds vs) (hl : items.length ≤ 16777216)
    (h : compD (fun S' => itemsOf k ds S' = some items) (bodyC tg elt cond σ) items S (fun outs S2 => mkL live outs S2 Q)) (g : Got K Z H S Q Qv) :
    ∀ D, H D = none → ∃ W : Nat → Nat → Hp → Prop, (∃ m, W 0 m (upd H D (.lst []))) ∧ ∀ i m H, W i m H →
      (J.stop i H ∧ Qv (.ref D) H) ∨ (J.go i H ∧ ∃ Nx : Hp → Prop, (∀ H', Nx H' → ∃ m', m' < m ∧ W (i + 1) m' H') ∧ ∀ x H', J.yld i H x H' → gOf K tg x (L2.wipe σV tg.slots) H' fun σ2 H2 => L2.wipe σ2 tg.slots = L2.wipe σV tg.slots ∧ ttOf K cond σ2 H2 fun b H3 =>
        if b = true then tE K W0 elt σ2 H3 fun y H4 => ∃ acc, H4 D = some (.lst acc) ∧ acc.length < sizeLine ∧ Nx (upd H4 D (.lst (acc ++ [y]))) else Nx H3) := by
  intro D hD
  obtain ⟨_, hZD⟩ := s.fresh hD
  refine ⟨fun i m H' => m = items.length - i ∧ i ≤ items.length ∧ ∃ accd accv S', Sim K (upd Z D (.lst accv)) H' S' ∧ Same (fz Z H S) (fz (upd Z D (.lst accv)) H' S') ∧ RepL K (fz (upd Z D (.lst accv)) H' S') accd accv ∧ accd.length ≤ i ∧
    compD (fun S' => itemsOf k ds S' = some items) (bodyC tg elt cond σ) (items.drop i) S' (fun outs S2 => mkL live (accd ++ outs) S2 Q), ?_, ?_⟩
  · obtain ⟨s1, e1⟩ := s.hide hD (.lst [])
    refine ⟨_, rfl, Nat.zero_le _, [], [], S, s1, e1, by simp only [RepL], Nat.le_refl _, ?_⟩
    simpa using h
  · rintro i m H1 ⟨rfl, hi, accd, accv, S1, s1, e1, ra, hal, hc⟩
    by_cases hlt : i < items.length
    · rw [List.drop_eq_getElem_cons hlt] at hc
      obtain ⟨stay, hb⟩ := hc
      have rs1 := RepL.mono e1 _ _ rs
      obtain ⟨go, yld⟩ := wj.go _ H1 S1 i _ s1 rs1 stay (List.getElem?_eq_getElem hlt)
      -- behind a turn
      have nx : ∀ {accd' : List DL.D} {accv' : List V} {H' : Hp} {S' : DS}, Sim K (upd Z D (.lst accv')) H' S' → Same (fz Z H S) (fz (upd Z D (.lst accv')) H' S') → RepL K (fz (upd Z D (.lst accv')) H' S') accd' accv' → accd'.length ≤ i + 1 →
          compD (fun S' => itemsOf k ds S' = some items) (bodyC tg elt cond σ) (items.drop (i + 1)) S' (fun outs S2 => mkL live (accd' ++ outs) S2 Q) →
          items.length - (i + 1) = items.length - (i + 1) ∧ i + 1 ≤ items.length ∧ ∃ accd accv S'', Sim K (upd Z D (.lst accv)) H' S'' ∧ Same (fz Z H S) (fz (upd Z D (.lst accv)) H' S'') ∧ RepL K (fz (upd Z D (.lst accv)) H' S'') accd accv ∧ accd.length ≤ i + 1 ∧
            compD (fun S' => itemsOf k ds S' = some items) (bodyC tg elt cond σ) (items.drop (i + 1)) S'' (fun outs S2 => mkL live (accd ++ outs) S2 Q) := fun {accd' accv' H' S'} a b c d e => ⟨rfl, hlt, accd', accv', S', a, b, c, d, e⟩
      have ele : ∀ {σ' : St0} {σ2 : StV} {H2 : Hp} {S2 : DS}, Sim K (upd Z D (.lst accv)) H2 S2 → Same (fz (upd Z D (.lst accv)) H1 S1) (fz (upd Z D (.lst accv)) H2 S2) → Sts K (fz (upd Z D (.lst accv)) H2 S2) σ' σ2 →
          elt σ' S2 (fun y S4 => compD (fun S' => itemsOf k ds S' = some items) (bodyC tg elt cond σ) (items.drop (i + 1)) S4 (fun outs S5 => mkL live (accd ++ y :: outs) S5 Q)) E0 →
          tE K W0 elt σ2 H2 fun y H4 => ∃ acc, H4 D = some (.lst acc) ∧ acc.length < sizeLine ∧ (items.length - (i + 1) = items.length - (i + 1) ∧ i + 1 ≤ items.length ∧ ∃ accd accv S'', Sim K (upd Z D (.lst accv)) (upd H4 D (.lst (acc ++ [y]))) S'' ∧
            Same (fz Z H S) (fz (upd Z D (.lst accv)) (upd H4 D (.lst (acc ++ [y]))) S'') ∧ RepL K (fz (upd Z D (.lst accv)) (upd H4 D (.lst (acc ++ [y]))) S'') accd accv ∧ accd.length ≤ i + 1 ∧
            compD (fun S' => itemsOf k ds S' = some items) (bodyC tg elt cond σ) (items.drop (i + 1)) S'' (fun outs S2 => mkL live (accd ++ outs) S2 Q)) := fun {σ' σ2 H2 S2} s2 e2 st2 he => by
        refine ⟨_, σ', S2, _, E0, s2, st2, he, fun y H4 d4 S4 e4 s4 r4 q4 => ?_, fun x S' H' cls d _ _ _ z => z.elim⟩
        obtain ⟨s5, e5⟩ := s4.rehide (.lst (accv ++ [y]))
        have ra4 := RepL.mono (e2.trans e4) _ _ ra
        refine ⟨accv, s4.zH D _ L2.upd_same, ?_, nx s5 ((e1.trans (e2.trans e4)).trans e5) (RepL.mono e5 _ _ (ra4.app (RepL.one r4))) ?_ ?_⟩
        · rw [ra.length, sizeLine_eq]; omega
        · rw [List.length_append]; simp; exact hal
        · simpa only [List.append_assoc, List.singleton_append] using q4
      refine .inr ⟨go, fun H' => _, fun H' q => ⟨items.length - (i + 1), by omega, q⟩, fun x H' hy => ?_⟩
      obtain ⟨e, rx⟩ := yld x H' hy
      subst e
      refine l_tg s1 ((Sts.mono st e1).wipe tg.slots) rx hb fun σ' σ2 st2 hcnd hw => ⟨hw.trans ?_, ?_⟩
      · -- wipe twice
        have ww : ∀ (is js : List Nat) (σ : StV), (∀ j ∈ js, j ∈ is) → L2.wipe (L2.wipe σ js) is = L2.wipe σ is := by
          have one : ∀ (i : Nat) (is : List Nat), i ∈ is → ∀ σ : StV, L2.wipe (σ.set i none) is = L2.wipe σ is := by
            intro i is
            induction is with
            | nil => intro h; simp at h
            | cons j js ih =>
              intro h σ
              unfold L2.wipe
              by_cases hij : i = j
              · subst hij
                have gen : ∀ (js : List Nat) (σV : StV), (L2.wipe (σV.set i none) js).set i none = (L2.wipe σV js).set i none := by
                  intro js
                  induction js with
                  | nil => intro σV; unfold L2.wipe; rw [List.set_set]
                  | cons k ks ih2 =>
                    intro σV
                    unfold L2.wipe
                    by_cases hik : i = k
                    · subst hik; rw [ih2]
                    · rw [List.set_comm _ _ (Ne.symm hik), ih2, List.set_comm _ _ hik]
                exact gen js σ
              · rw [ih ((List.mem_cons.mp h).resolve_left hij)]
          intro is js
          induction js with
          | nil => intro σ _; rfl
          | cons j js ih =>
            intro σ hj
            show L2.wipe ((L2.wipe σ js).set j none) is = _
            rw [one j is (hj j (by simp)), ih σ fun k hk => hj k (List.mem_cons_of_mem _ hk)]
        exact ww _ _ _ fun j hj => hj
      · cases cond with
        | none => exact ele s1 (Same.refl _) st2 hcnd
        | some c =>
          refine ⟨_, σ', S1, _, E0, s1, st2, hcnd, fun b H3 S3 e3 s3 q3 => ?_, fun x S' H' cls d _ _ _ z => z.elim⟩
          cases b with
          | true => exact ele s3 e3 (st2.mono e3) q3
          | false => exact nx s3 (e1.trans e3) (RepL.mono e3 _ _ ra) (by omega) q3
    · have e : i = items.length := by omega
      subst e
      rw [List.drop_length] at hc
      obtain ⟨stay, q⟩ := hc
      rw [List.append_nil] at q
      refine .inl ⟨wj.stop _ H1 S1 _ s1 (RepL.mono e1 _ _ rs) stay (List.getElem?_eq_none (Nat.le_refl _)), ?_⟩
      cases live with
      | true =>
        obtain ⟨s2, e2, hS⟩ := s1.live hZD (.lst accd) ⟨accv, s1.zH D _ L2.upd_same, ra⟩
        exact g _ H1 (.ref D) _ (e1.trans e2) s2 (by simp only [RepV]) (q D hS)
      | false =>
        obtain ⟨s2, e2, hD2⟩ := s1.show hZD
        exact g _ H1 (.lst accd) _ (e1.trans e2) s2 (by simp only [RepV]; exact ⟨D, accv, rfl, hD2, RepL.mono e2 _ _ ra⟩) q
end DL

set_option linter.all false
set_option autoImplicit false
set_option maxHeartbeats 1000000
namespace DL
open PySem PySem.Spec PyProof.Rows L2 TL
section
variable {Γ : Gam} {k : Nat} {N : List Str} {calm : Bool} {sc : Scope} {X : Cx} {W : WX}
/-- what is shown of an expression -/
def SE (X : Cx) (W : WX) (r : RV × RT) (e : Expr) : Prop := PE X e (tE X.K W r.1) ∧ PT X e (tT X.K W r.2) ∧ nice e = true
def AllE (X : Cx) (W : WX) : List (RV × RT) → List Expr → Prop
  | [], [] => True
  | r :: rs, e :: es => SE X W r e ∧ AllE X W rs es
  | _, _ => False
theorem AllE.nice : ∀ {rs : List (RV × RT)} {es : List Expr}, AllE X W rs es → es.all nice = true
  | [], [], _ => rfl
  | r :: rs, e :: es, h => by rw [List.all_cons, h.1.2.2, AllE.nice h.2]; rfl
  | [], _ :: _, h => h.elim
  | _ :: _, [], h => h.elim
theorem AllE.pa : ∀ {rs : List (RV × RT)} {es : List Expr}, AllE X W rs es → PA X es (tL X.K W (rdL Γ rs))
  | [], [], _ => pa_nil.imp fun σ H Q q => tL_nil q
  | r :: rs, e :: es, h => (pa_cons h.1.1 (AllE.pa h.2) (nice_star h.1.2.2 _ _)).imp fun σ H Q q => tL_cons q
  | [], _ :: _, h => h.elim
  | _ :: _, [], h => h.elim
theorem AllE.len : ∀ {rs : List (RV × RT)} {es : List Expr}, AllE X W rs es → es.length = rs.length
  | [], [], _ => rfl
  | r :: rs, e :: es, h => by rw [List.length_cons, List.length_cons, AllE.len h.2]
  | [], _ :: _, h => h.elim
  | _ :: _, [], h => h.elim
theorem rds_length (Γ : Gam) : ∀ xs : List XE, (rds Γ xs).length = xs.length
  | [] => rfl
  | x :: xs => by simp only [rds, List.length_cons, rds_length Γ xs]
theorem se_tru {e : Expr} {r : RV} (h : PE X e (tE X.K W r)) (hn : nice e = true) (he : ∀ whole, isTrue e X.env whole = (do let v ← whole; standAt e.pos; holding [v] (truthy v))) : SE X W (r, rTru r) e := ⟨h, pt_tru h he, hn⟩
theorem pe_andC {pos : Pos} : ∀ {rs : List (RV × RT)} {es : List Expr}, AllE X W rs es → rs ≠ [] → PE X (.BoolOp .And es pos) (tE X.K W (rAndV (rs.map (·.1))))
  | [], _, _, h => absurd rfl h
  | [r], [e], h, _ => (pe_one h.1.1).imp fun _ _ _ q => q
  | r :: r2 :: rs, e :: e2 :: es, h, _ => (pe_and h.1.1 (pe_andC h.2 (by simp))).imp fun _ _ _ q => tE_and q
  | [_], [], h, _ => h.elim
  | [_], _ :: _ :: _, h, _ => h.2.elim
  | _ :: _ :: _, [], h, _ => h.elim
  | _ :: _ :: _, [_], h, _ => h.2.elim
theorem pe_orC {pos : Pos} : ∀ {rs : List (RV × RT)} {es : List Expr}, AllE X W rs es → rs ≠ [] → PE X (.BoolOp .Or es pos) (tE X.K W (rOrV (rs.map (·.1))))
  | [], _, _, h => absurd rfl h
  | [r], [e], h, _ => (pe_one h.1.1).imp fun _ _ _ q => q
  | r :: r2 :: rs, e :: e2 :: es, h, _ => (pe_or h.1.1 (pe_orC h.2 (by simp))).imp fun _ _ _ q => tE_or q
  | [_], [], h, _ => h.elim
  | [_], _ :: _ :: _, h, _ => h.2.elim
  | _ :: _ :: _, [], h, _ => h.elim
  | _ :: _ :: _, [_], h, _ => h.2.elim
theorem pw_andC {pos : Pos} : ∀ {rs : List (RV × RT)} {es : List Expr}, AllE X W rs es → rs ≠ [] → PW X (.BoolOp .And es pos) (tT X.K W (rAndT (rs.map (·.2))))
  | [], _, _, h => absurd rfl h
  | [r], [e], h, _ => (pw_and1 h.1.2.1).imp fun _ _ _ q => q
  | r :: r2 :: rs, e :: e2 :: es, h, _ => (pw_and h.1.2.1 (pw_andC h.2 (by simp))).imp fun _ _ _ q => tT_and q
  | [_], [], h, _ => h.elim
  | [_], _ :: _ :: _, h, _ => h.2.elim
  | _ :: _ :: _, [], h, _ => h.elim
  | _ :: _ :: _, [_], h, _ => h.2.elim
theorem pw_orC {pos : Pos} : ∀ {rs : List (RV × RT)} {es : List Expr}, AllE X W rs es → rs ≠ [] → PW X (.BoolOp .Or es pos) (tT X.K W (rOrT (rs.map (·.2))))
  | [], _, _, h => absurd rfl h
  | [r], [e], h, _ => (pw_or1 h.1.2.1).imp fun _ _ _ q => q
  | r :: r2 :: rs, e :: e2 :: es, h, _ => (pw_or h.1.2.1 (pw_orC h.2 (by simp))).imp fun _ _ _ q => tT_or q
  | [_], [], h, _ => h.elim
  | [_], _ :: _ :: _, h, _ => h.2.elim
  | _ :: _ :: _, [], h, _ => h.elim
  | _ :: _ :: _, [_], h, _ => h.2.elim
/-! operators -/
abbrev binR (K : PySem.W.Frag) : BOp → R2
  | .add _ => rAddA K | .sub => rI0 fun i j => .int (i - j) | .mul _ => rMulA | .fdiv => rI CDiv fun i j => .int (i / j) | .mod => rI (fun _ j => 0 < j) fun i j => .int (i % j) | .pow => rI CPow fun i j => .int (i ^ j.toNat)
theorem bin_op {o : BOp} {q : Operator} (h : o.ok q = true) : OpR X (binaryOp q) (binR X.K o) := by
  cases o <;> cases q <;> first | (cases h; done) | exact op_addA | exact op_sub | exact op_mulA | exact op_fdiv | exact op_mod | exact op_pow
theorem bin_l {K : PySem.W.Frag} (o : BOp) : L2of K (binR K o) (binD o) := by
  cases o <;> first | exact l_add | exact l_sub | exact l_mul | exact l_fdiv | exact l_mod | exact l_pow
abbrev cmpR (K : PySem.W.Frag) : COp → R2
  | .eq => rEqD K | .ne => rNeD K | .lt => rOrd .lt | .le => rOrd .le | .gt => rOrd .gt | .ge => rOrd .ge | .inn => rInA K false | .nin => rInA K true
theorem cmp_op {o : COp} {q : CmpOp} (hu : X.A.units + 200 < cLine) (h : o.ok q = true) : OpR X (compareOp q) (cmpR X.K o) := by
  cases o <;> cases q <;> first | (cases h; done) | exact op_eqD (by omega) | exact op_neD (by omega) | exact op_ord .lt | exact op_ord .le | exact op_ord .gt | exact op_ord .ge | exact op_inA (by omega) | exact op_notInA (by omega)
theorem cmp_l {K : PySem.W.Frag} (o : COp) : L2of K (cmpR K o) (cmpD o) := by
  cases o <;> first | exact l_eq | exact l_ne | exact l_ord _ | exact l_in
theorem noSet_mark {e : Expr} (h : noSet e = true) (op : CmpOp) : behindInMarks op e = false := by
  cases e <;> first | rfl | cases h
theorem noSlice_ix {e : Expr} (h : noSlice e = true) : PlainIx e := by
  intro o i
  cases e <;> first | rfl | cases h
theorem noSet_fold {e : Expr} (h : noSet e = true) (env : Env) (x : Value) : foldedSetIterable e env x = pure x := by
  cases e <;> first | rfl | cases h
/-! built-in functions -/
theorem boot_bi : ∀ b : Bi, (match b with
    | .int => bootBuiltins (Str.ofString b.name) = some (.type "int")
    | .str => bootBuiltins (Str.ofString b.name) = some (.type "str")
    | .list _ => bootBuiltins (Str.ofString b.name) = some (.type "list")
    | b => bootBuiltins (Str.ofString b.name) = some (.builtin b.name)) := by
  intro b
  cases b <;> first | decide +kernel | (show bootBuiltins (Str.ofString "list") = some (.type "list"); decide +kernel)
theorem bi_names (b : Bi) : b.name ∈ biNames := by cases b <;> first | decide | (show "list" ∈ biNames; decide)
theorem tCB_of {K : PySem.W.Frag} {as : RVs} {f : List D → DS → QD → Prop} {r : List V → Hp → VK → Prop} (L : LC K r f) {σV : StV} {H : Hp} {Q : VK} (h : tE K W (rS as (noE f)) σV H Q) : tCB r (tL K W as) σV H Q :=
  tL_S (r := fun _ xs H Q => r xs H Q) (fun Z H S xs ds Q E Qv σV s rs q g _ => L Z H S xs ds Q Qv s rs q g) h
theorem pe_bi (G : Good Γ k N calm sc X) (hc : calm = true) {b : Bi} {x : Str} {p pos : Pos} {e : Expr} {es : List Expr} {as : RVs} (hx : glB sc x b.name = true) (hn : (e :: es).all nice = true) (ha : PA X (e :: es) (tL X.K W as)) :
    PE X (.Call (.Name x p) (e :: es) [] pos) (tE X.K W (rS as (noE (biD b)))) := by
  obtain ⟨e1, hg, hd, _, hnn⟩ := G.gl hx
  rw [List.all_cons, Bool.and_eq_true] at hn
  subst e1
  have hm := G.gam.bi _ (bi_names b)
  have hb := boot_bi b
  have hcalm := (G.calm hc).1
  have s1 := nice_star hn.1 es X.env
  have s2 := nostar X.env pos hn.2
  cases b with
  | len => exact (pe_callB call_len hg hm hb ha hnn hd s1 s2).imp fun _ _ _ q => tCB_of b_len q
  | ord => exact (pe_callB call_ord hg hm hb ha hnn hd s1 s2).imp fun _ _ _ q => tCB_of b_ord q
  | abs => exact (pe_callB call_abs hg hm hb ha hnn hd s1 s2).imp fun _ _ _ q => tCB_of b_abs q
  | int => exact (pe_callTy call_intA hg hm hb ha hnn hd s1 s2).imp fun _ _ _ q => tCB_of b_int q
  | str => exact (pe_callTy call_str_int hg hm hb ha hnn hd s1 s2).imp fun _ _ _ q => tCB_of b_str q
  | all => exact (pe_callB (cr_all hcalm) hg hm hb ha hnn hd s1 s2).imp fun _ _ _ q => tCB_of b_all q
  | any => exact (pe_callB (cr_any hcalm) hg hm hb ha hnn hd s1 s2).imp fun _ _ _ q => tCB_of b_any q
  | list l => exact (pe_callTy call_list_of hg hm hb ha hnn hd s1 s2).imp fun _ _ _ q => tCB_of b_list q
/-! methods of texts and lists -/
theorem ok_str {K : PySem.W.Frag} : ∀ Z H S x d, Sim K Z H S → RepV K (fz Z H S) d x → isStr S d → tyV K "str" x H := by
  intro Z H S x d s r ⟨t, e⟩
  subst e
  simp only [RepV] at r
  rw [r.1]; rfl
theorem ok_lst {K : PySem.W.Frag} : ∀ Z H S x d, Sim K Z H S → RepV K (fz Z H S) d x → isLst S d → tyV K "list" x H := by
  intro Z H S x d s r ⟨ds, e⟩
  obtain ⟨a, vs, h1, h2, h3⟩ := asL_ok s r e
  subst h1
  exact .inl ⟨rfl, vs, SqL.of h2⟩
theorem few {es : List Expr} {cp : Pos} (env : Env) (h : es.all nice = true) (hl : es.length < 20) : ((backTo cp (starEach es env)).all (fun x => !x.1) && (backToKw cp (keywordEach [] env)).all (fun x => x.1.isSome)
      && decide (es.length + ([] : List Keyword).length + (if ([] : List Keyword).isEmpty then 0 else 1) < 30)) = true := by
  rw [nostar_all env cp h, Bool.true_and]
  show (true && decide (es.length + 0 + 0 < 30)) = true
  rw [Bool.true_and]
  exact decide_eq_true (by omega)
theorem tBM_of {K : PySem.W.Frag} {T : String} {o : RV} {ok : DS → D → Prop} {as : RVs} {f : D → List D → DS → QD → Prop} {r : V → List V → Hp → VK → Prop} (L0 : ∀ Z H S x d, Sim K Z H S → RepV K (fz Z H S) d x → ok S d → tyV K T x H) (L : LM K r f) {σV : StV} {H : Hp} {Q : VK}
    (h : tE K W (rM o ok as (noE1 f)) σV H Q) : tBM K T r (tE K W o) (tL K W as) σV H Q :=
  tE_M (r := fun _ x xs H Q => r x xs H Q) L0 (fun Z H S x xs d ds Q E Qv σV s rx rs q g _ => L Z H S x xs d ds Q Qv s rx rs q g) h
theorem tBM0_of {K : PySem.W.Frag} {T : String} {o : RV} {ok : DS → D → Prop} {f : D → List D → DS → QD → Prop} {r : V → List V → Hp → VK → Prop} (L0 : ∀ Z H S x d, Sim K Z H S → RepV K (fz Z H S) d x → ok S d → tyV K T x H) (L : LM K r f) {σV : StV} {H : Hp} {Q : VK}
    (h : tE K W (rM o ok rNil (noE1 f)) σV H Q) : tBM0 K T r (tE K W o) σV H Q := by
  obtain ⟨Z, σ, S, QD, ED, s, st, h, g, ge⟩ := tE_M (r := fun _ x xs H Q => r x xs H Q) L0 (fun Z H S x xs d ds Q E Qv σV s rx rs q g _ => L Z H S x xs d ds Q Qv s rx rs q g) h
  exact ⟨Z, σ, S, QD, ED, s, st, h, fun v H' d S' e s' r' q => ⟨(g v H' d S' e s' r' q).1, tL_nil (g v H' d S' e s' r' q).2⟩, ge⟩
theorem pe_sm {m : SM} {o : Expr} {ap cp : Pos} {e : Expr} {es : List Expr} {ro : RV} {as : RVs} (hp : (ap.endLine == cp.line) = true) (hno : nice o = true) (hn : (e :: es).all nice = true) (hl : (e :: es).length = m.ar) (ho : PE X o (tE X.K W ro)) (ha : PA X (e :: es) (tL X.K W as)) :
    PE X (.Call (.Attribute o (Str.ofString m.name) ap) (e :: es) [] cp) (tE X.K W (rM ro isStr as (noE1 (smD m)))) := by
  have hfew := few (cp := cp) X.env hn (by rw [hl]; cases m <;> decide)
  have hb := nice_base hno (Str.ofString m.name) X.env
  rw [List.all_cons, Bool.and_eq_true] at hn
  have s1 := nice_star hn.1 es X.env
  have s2 := nostar X.env cp hn.2
  cases m with
  | join => exact (pe_bm PySem.F.plainAttrs_str PySem.F.slot_str_join PySem.F.type_str_join mt_join ho ha hb hfew hp s1 s2).imp fun _ _ _ q => tBM_of ok_str m_join q
  | lstrip => exact (pe_bm PySem.F.plainAttrs_str PySem.F.slot_str_lstrip PySem.F.type_str_lstrip mt_lstripChars ho ha hb hfew hp s1 s2).imp fun _ _ _ q => tBM_of ok_str m_lstrip q
  | starts2 => exact (pe_bm PySem.F.plainAttrs_str PySem.F.slot_str_startswith PySem.F.type_str_startswith mt_startswith3 ho ha hb hfew hp s1 s2).imp fun _ _ _ q => tBM_of ok_str m_starts2 q
theorem pe_lm {m : LMt} {o : Expr} {ap cp : Pos} {e : Expr} {es : List Expr} {ro : RV} {as : RVs} (hp : (ap.endLine == cp.line) = true) (hno : nice o = true) (hn : (e :: es).all nice = true) (hl : (e :: es).length = m.ar) (ho : PE X o (tE X.K W ro)) (ha : PA X (e :: es) (tL X.K W as)) :
    PE X (.Call (.Attribute o (Str.ofString m.name) ap) (e :: es) [] cp) (tE X.K W (rM ro isLst as (noE1 (lmD m)))) := by
  have hfew := few (cp := cp) X.env hn (by rw [hl]; cases m <;> decide)
  have hb := nice_base hno (Str.ofString m.name) X.env
  rw [List.all_cons, Bool.and_eq_true] at hn
  have s1 := nice_star hn.1 es X.env
  have s2 := nostar X.env cp hn.2
  cases m with
  | append => exact (pe_bm PySem.F.plainAttrs_list PySem.F.slot_list_append PySem.F.type_list_append mt_append ho ha hb hfew hp s1 s2).imp fun _ _ _ q => tBM_of ok_lst m_app q
  | insert => exact (pe_bm PySem.F.plainAttrs_list PySem.F.slot_list_insert PySem.F.type_list_insert mt_insert ho ha hb hfew hp s1 s2).imp fun _ _ _ q => tBM_of ok_lst m_ins q
  | extend => exact (pe_bm PySem.F.plainAttrs_list PySem.F.slot_list_extend PySem.F.type_list_extend mt_extend ho ha hb hfew hp s1 s2).imp fun _ _ _ q => tBM_of ok_lst m_ext q
  | pop => simp [LMt.ar] at hl
  | popAt => exact (pe_bm PySem.F.plainAttrs_list PySem.F.slot_list_pop PySem.F.type_list_pop mt_popAt ho ha hb hfew hp s1 s2).imp fun _ _ _ q => tBM_of ok_lst m_popAt q
  | index => exact (pe_bm PySem.F.plainAttrs_list PySem.F.slot_list_index PySem.F.type_list_index mt_index ho ha hb hfew hp s1 s2).imp fun _ _ _ q => tBM_of ok_lst m_idx q
  | count => exact (pe_bm PySem.F.plainAttrs_list PySem.F.slot_list_count PySem.F.type_list_count mt_countF ho ha hb hfew hp s1 s2).imp fun _ _ _ q => tBM_of ok_lst m_count q
theorem pe_lm0 {o : Expr} {ap cp : Pos} {ro : RV} (hp : (ap.endLine == cp.line) = true) (hno : nice o = true) (ho : PE X o (tE X.K W ro)) :
    PE X (.Call (.Attribute o (Str.ofString "pop") ap) [] [] cp) (tE X.K W (rM ro isLst rNil (noE1 (lmD .pop)))) :=
  (pe_bm0 PySem.F.plainAttrs_list PySem.F.slot_list_pop PySem.F.type_list_pop mt_pop ho (nice_base hno _ _) hp).imp fun _ _ _ q => tBM0_of ok_lst m_pop q
end
end DL

set_option linter.all false
set_option autoImplicit false
set_option maxHeartbeats 1000000
namespace DL
open PySem PySem.Spec PyProof.Rows L2 TL
section
variable {Γ : Gam} {k : Nat} {N : List Str} {calm : Bool} {sc : Scope} {X : Cx} {W : WX}
/-! dicts of the program -/
theorem pe_dixl (hu : X.A.units + 1 < cLine) {o i : Expr} {pos : Pos} {ro ri : RV} (ho : PE X o (tE X.K W ro)) (hi : PE X i (tE X.K W ri)) (hs : noSlice i = true) : PE X (.Subscript o i pos) (tE X.K W (r2 ro ri dixD)) :=
  (pe_dget hu ho hi (noSlice_ix hs)).imp fun σV H Q h => by
    obtain ⟨Z, σ, S, QD, ED, s, st, h, g, ge⟩ := h
    refine ⟨Z, σ, S, _, ED, s, st, h, fun v H1 d S1 e1 s1 r1 h1 => ⟨Z, σ, S1, _, ED, s1, st.mono e1, h1, fun w H2 d2 S2 e2 s2 r2 ⟨kvs, t, y, ek, et, el, q⟩ => ?_, ge.to e1⟩, ge⟩
    obtain ⟨a, vs, h1, h2, h3⟩ := asK_ok s2 (RepV.mono e2 _ _ r1) ek
    subst et
    simp only [RepV] at r2
    rcases look_rep (k := t) h3 with ⟨k1, _⟩ | ⟨d3, v3, k1, k2, k3⟩
    · rw [k1] at el; cases el
    · rw [k1] at el; cases el
      have hg : DGet H2 a (kV (.inr (tS t))) (valV vs (.inr (tS t))) := DGet.k h2
      rw [k2] at hg
      exact ⟨a, v3, h1, by rw [r2.1]; exact hg, g.to (e1.trans e2) |>.here s2 k3 q⟩
/-! written dicts -/
theorem pt_never {e : Expr} {t : TT} (h : ∀ σ H Q, t σ H Q → False) : PT X e t := ⟨fun _ _ σ H Q _ q => (h σ H Q q).elim⟩
theorem pe_gInl (G : Good Γ k N calm sc X) {n : Bool} {q : CmpOp} {e : Expr} {x : Str} {f : String} {p pos : Pos} {rk : RV} {o : Option (List (Tx × Tx))} (ho : Γ.gd f = o) (hq : (match n, q with
    | false, .In => true
    | true, .NotIn => true
    | _, _ => false) = true) (hx : glB sc x f = true) (hk : PE X e (tE X.K W rk)) :
    PE X (.Compare e [q] [.Name x p] pos) (tE X.K W (rG o (gInD n) rk)) ∧ PT X (.Compare e [q] [.Name x p] pos) (tT X.K W (rBl (rG o (gInD n) rk))) := by
  cases o with
  | none => exact ⟨pe_never fun _ _ _ q => tE_false q, pt_never fun σ H Q q => by
      obtain ⟨Z, σ, S, QD, ED, s, st, h, g, ge⟩ := q
      exact h⟩
  | some l =>
    obtain ⟨e1, hg, hd, _⟩ := G.gl hx
    obtain ⟨a, es, m, hm, hD, h1, h2⟩ := G.gam.gd f l ho
    rw [← e1] at hm
    have look : ∀ t : Tx, ∃ r, PySem.W.nsIn X.K a (tS t) = some r ∧ r.isSome = (lookG l t).isSome := fun t => by
      cases hl : lookG l t with
      | none => exact ⟨none, h1 t hl, rfl⟩
      | some z =>
        obtain ⟨_, u, hu, _⟩ := h2 t z hl
        exact ⟨some u, hu, rfl⟩
    have hy : PE X (.Name x p) (tC (.ref a)) := pe_glob hg hm rfl hd
    have main : ∃ r : R2, OpR X (compareOp q) r ∧ ∀ Z H S y d Q Qv, Sim X.K Z H S → RepV X.K (fz Z H S) d y → gInD n l d S Q → Got X.K Z H S Q Qv → r y (.ref a) H Qv := by
      cases n with
      | false =>
        cases q <;> first | (cases hq; done) | skip
        refine ⟨_, op_in_kd hD, fun Z H S y d Q Qv s r h g => ?_⟩
        unfold gInD at h
        split at h
        · rename_i t
          simp only [RepV] at r
          obtain ⟨rr, k1, k2⟩ := look t
          exact ⟨_, rr, r.1, rfl, k1, by rw [k2]; exact g.here s (by simp [RepV]) h⟩
        · exact h.elim
      | true =>
        cases q <;> first | (cases hq; done) | skip
        refine ⟨_, op_notIn_kd hD, fun Z H S y d Q Qv s r h g => ?_⟩
        unfold gInD at h
        split at h
        · rename_i t
          simp only [RepV] at r
          obtain ⟨rr, k1, k2⟩ := look t
          exact ⟨_, rr, r.1, rfl, k1, by rw [k2]; exact g.here s (by simp [RepV]) h⟩
        · exact h.elim
    obtain ⟨r, hr, L⟩ := main
    have hm2 : behindInMarks q (.Name x p) = false := rfl
    refine ⟨(pe_cmpR hr hk hy hm2).imp fun σ H Q h => tE_1 (r := fun y H Q => r y (.ref a) H Q) L h, (pt_cmpR hr hk hy hm2).imp fun σ H Q h => ?_⟩
    exact tE_1 (r := fun y H Q => r y (.ref a) H Q) L (tE_bl h)
theorem pe_gIxl (G : Good Γ k N calm sc X) {e : Expr} {x : Str} {f : String} {p pos : Pos} {rk : RV} {o : Option (List (Tx × Tx))} (ho : Γ.gd f = o) (hx : glB sc x f = true) (hk : PE X e (tE X.K W rk)) (hs : noSlice e = true) :
    PE X (.Subscript (.Name x p) e pos) (tE X.K W (rG o gIxD rk)) := by
  cases o with
  | none => exact pe_never fun _ _ _ q => tE_false q
  | some l =>
    obtain ⟨e1, hg, hd, _⟩ := G.gl hx
    obtain ⟨a, es, m, hm, hD, h1, h2⟩ := G.gam.gd f l ho
    rw [← e1] at hm
    have hy : PE X (.Name x p) (tC (.ref a)) := pe_glob hg hm rfl hd
    refine ⟨fun pins s σ H Q I h => ?_⟩
    refine subD_of PySem.F.slot_dict_getitem.lookup (noSlice_ix hs) (thn (hy.run pins s σ H (fun v H1 => v = .ref a ∧ tE X.K W (rG (some l) gIxD rk) σ H1 Q) I ⟨rfl, h⟩) fun u s1 ⟨x', H1, I1, rx, ex, h'⟩ => ?_)
    subst ex
    obtain rfl : u = Value.ref a := rx
    have L : ∀ (Z H : Hp) (S : DS) (y : V) (d : D) (Q : QD) (Qv : VK), Sim X.K Z H S → RepV X.K (fz Z H S) d y → gIxD l d S Q → Got X.K Z H S Q Qv →
        ∃ t z u, y = V.str (tS t) ∧ PySem.W.nsIn X.K a (tS t) = some (some u) ∧ RelV (.str (tS z)) u ∧ Qv (.str (tS z)) H := by
      intro Z H S y d Q Qv s r h g
      unfold gIxD at h
      split at h
      · rename_i t
        obtain ⟨z, hz, q⟩ := h
        obtain ⟨ok, u, hu, ru⟩ := h2 t z hz
        simp only [RepV] at r
        exact ⟨t, z, u, r.1, hu, ru, g.here s (by simp only [RepV]; exact ⟨trivial, ok⟩) q⟩
      · exact h.elim
    have h3 := tE_1 (a := rk) (f := gIxD l) (r := fun y H Q => ∃ t z u, y = V.str (tS t) ∧ PySem.W.nsIn X.K a (tS t) = some (some u) ∧ RelV (.str (tS z)) u ∧ Q (.str (tS z)) H) L h'
    refine thn (hk.run pins s1 σ H1 _ I1 h3) fun iv s2 ⟨y, H2, I2, ry, t, z, u, ey, eu, ru, q⟩ => ⟨kd_type hD I2, ?_⟩
    subst ey
    exact op_item_kd hD pins s2 σ H2 (.ref a) (.str (tS t)) (.ref a) iv Q I2 rfl ry ⟨tS t, u, .str (tS z), rfl, rfl, eu, ru, q⟩
/-! what is walked -/
def WI (X : Cx) (k : ItK) (es : List (RV × RT)) (Γ : Gam) (W : WX) (wi : TI) : Prop := ∀ (σV : StV) (H : Hp) (Z : Hp) (σ : St0) (S : DS) (ED : QE) (Qd : List D → List D → DS → Prop) (R : It → Hp → Prop), Sim X.K Z H S → Sts X.K (fz Z H S) σ σV →
  rdL Γ es σ S (fun ds S1 => ∃ items, itemsOf k ds S1 = some items ∧ itOk k ds ∧ Qd items ds S1) ED → GotE X.K Z H S ED (fun cls d H' => W cls d σV H') →
  (∀ J H1 S1 ds items vs, Same (fz Z H S) (fz Z H1 S1) → Sim X.K Z H1 S1 → RepL X.K (fz Z H1 S1) ds vs → itemsOf k ds S1 = some items → WalkJ X.K J k ds items vs → Qd items ds S1 → R J H1) → wi σV H R
theorem wi_seq {r : RV × RT} : WI X .seq [r] Γ W (iSeq X.K (tE X.K W r.1)) := by
  intro σV H Z σ S ED Qd R s st h ge hR
  simp only [rdL, rCons, rNil] at h
  exact ⟨Z, σ, S, _, ED, s, st, h, fun v H1 d S1 e1 s1 r1 ⟨items, hi, _, q⟩ => walk_seq s1 r1 hi fun J wj => hR J H1 S1 [d] items [v] e1 s1 (RepL.one r1) hi wj q, ge⟩
theorem wi_r1 {r : RV × RT} {ta : TA} (hta : ta = tCons (tE X.K W r.1) tNil) : WI X .range1 [r] Γ W (iRng1 ta) := by
  intro σV H Z σ S ED Qd R s st h ge hR
  subst hta
  simp only [rdL, rCons, rNil] at h
  refine ⟨Z, σ, S, _, ED, s, st, h, fun v H1 d S1 e1 s1 r1 ⟨items, hi, ok, q⟩ => ?_, ge⟩
  cases d with
  | int j =>
    have r1' := r1
    simp only [RepV] at r1
    subst r1
    simp only [itOk] at ok
    refine ⟨j, rfl, ok.1, ok.2, hR _ H1 S1 [.int j] items [.int j] e1 s1 (RepL.one r1') hi (walk_rng ?_) q⟩
    cases hi
    simp
  | _ => simp [itemsOf, asSq] at hi
theorem wi_r2 {r r' : RV × RT} {ta : TA} (hta : ta = tCons (tE X.K W r.1) (tCons (tE X.K W r'.1) tNil)) : WI X .range2 [r, r'] Γ W (iRng2 ta) := by
  intro σV H Z σ S ED Qd R s st h ge hR
  subst hta
  simp only [rdL, rCons, rNil] at h
  refine ⟨Z, σ, S, _, ED, s, st, h, fun v H1 d S1 e1 s1 r1 q1 => ⟨Z, σ, S1, _, ED, s1, st.mono e1, q1, fun v2 H2 d2 S2 e2 s2 r2 ⟨items, hi, ok, q⟩ => ?_, ge.to e1⟩, ge⟩
  cases d with
  | int i =>
    cases d2 with
    | int j =>
      have r1' := RepV.mono e2 _ _ r1
      have r2' := r2
      simp only [RepV] at r1 r2
      subst r1 r2
      simp only [itOk] at ok
      refine ⟨i, j, rfl, ok, hR _ H2 S2 [.int i, .int j] items [.int i, .int j] (e1.trans e2) s2 (RepL.cons r1' (RepL.one r2')) hi (walk_rng ?_) q⟩
      cases hi
      rfl
    | _ => simp [itemsOf] at hi
  | _ => simp [itemsOf] at hi
end
end DL

set_option linter.all false
set_option autoImplicit false
set_option maxHeartbeats 1000000
namespace DL
open PySem PySem.Spec PyProof.Rows L2 TL
/-- names that a comprehension's block keeps -/
theorem isLoc_rel {s sc : Scope} {x : Str} (h : isLoc (s.names.lookup x) = true) : (relS s sc).names.lookup x = s.names.lookup x := by
  unfold isLoc at h
  split at h
  · rename_i e; rw [e]; exact lookup_relS_keep (by simp) e
  · rename_i e; rw [e]; exact lookup_relS_keep (by simp) e
  · cases h
theorem tgNs_rel {N : List Str} {s sc : Scope} : ∀ {is : List Nat} {es : List Expr}, tgNs N s is es = true → tgNs N (relS s sc) is es = true
  | [], [], _ => rfl
  | i :: is, e :: es, h => by
    unfold tgNs at h ⊢
    rw [Bool.and_eq_true] at h
    rw [Bool.and_eq_true]
    refine ⟨?_, tgNs_rel h.2⟩
    have h1 := h.1
    cases e <;> try (cases h1; done)
    unfold tgN at h1 ⊢
    rw [Bool.and_eq_true] at h1 ⊢
    exact ⟨h1.1, by rw [isLoc_rel h1.2]; exact h1.2⟩
  | [], _ :: _, h => by cases h
  | _ :: _, [], h => by cases h
theorem tgB_rel {N : List Str} {s sc : Scope} {t : XTg} {e : Expr} (h : tgB N s t e = true) : tgB N (relS s sc) t e = true := by
  cases t with
  | name i =>
    unfold tgB at h ⊢
    cases e <;> try (cases h; done)
    unfold tgN at h ⊢
    rw [Bool.and_eq_true] at h ⊢
    exact ⟨h.1, by rw [isLoc_rel h.2]; exact h.2⟩
  | tup is =>
    cases e <;> try (cases h; done)
    exact tgNs_rel h
section
variable {Γ : Gam} {k : Nat} {N : List Str} {calm : Bool} {sc : Scope} {X : Cx} {W : WX}
/-- an expression's place -/
def SEo (X : Cx) (W : WX) : Option (RV × RT) → Option Expr → Prop
  | none, none => True
  | some r, some e => SE X W r e
  | _, _ => False
def SEc (X : Cx) (W : WX) : Option (RV × RT) → List Expr → Prop
  | none, [] => True
  | some r, [e] => SE X W r e
  | _, _ => False
/-- the block of a comprehension -/
theorem Good.blk (G : Good Γ k N calm sc X) (s : Scope) (s' : Shared) (H : Hp) (C : Addr) (cl : List (Str × Addr)) (fp : List Addr) : Good Γ k N calm (relS s sc) (X.blk s' H s (compEnvC s cl C X.env) fp) where
  gam := G.gam
  nd := G.nd
  n := G.n
  sc := by rw [← G.sc]; rfl
  hu := G.hu
  calm := G.calm
theorem blk_tg (G : Good Γ k N calm sc X) (hc : X.calm = true) {s : Scope} {t : XTg} {e : Expr} (h : tgB N s t e = true) (s' : Shared) (H : Hp) (C : Addr) (cl : List (Str × Addr)) (fp : List Addr) :
    PG (X.blk s' H s (compEnvC s cl C X.env) fp) e (gOf X.K t) := by
  refine pg_of (X := X.blk s' H s (compEnvC s cl C X.env) fp) (sc := s) G.nd hc (fun x hx => ?_) (by rw [← G.n] at h; exact h)
  have e1 : (X.blk s' H s (compEnvC s cl C X.env) fp).env.scope.names.lookup x = s.names.lookup x := by
    have := isLoc_rel (sc := sc) hx
    rw [← G.sc] at this
    exact this
  unfold isLoc at hx
  split at hx
  · rename_i e; exact ⟨.inl (e1.trans e), .inr (e1.trans e)⟩
  · rename_i e
    refine ⟨.inr (e1.trans e), .inl ?_⟩
    show (s.names.lookup x == some .cell) = true
    rw [e]; rfl
  · cases hx
theorem own_slots (N : List Str) (t : XTg) : (ownOf N t).map (·.2) = t.slots := by
  unfold ownOf
  rw [List.map_map]
  exact List.map_id' _
theorem se_comp (G : Good Γ k N calm sc X) (hc : calm = true) {live : Bool} {tg : XTg} {kk : ItK} {es : List (RV × RT)} {relt : RV × RT} {rc : Option (RV × RT)} {q t it : Expr} {ifs : List Expr} {s : Scope} {wi : TI}
    (hi : PI X t it wi) (hw : WI X kk es Γ W wi) (hb : blkC N sc s (ownOf N tg) = true) (ht : tgB N s tg t = true) (hs : ∀ x, foldedSetIterable it X.env x = pure x)
    (he : ∀ (s' : Shared) (H : Hp) (C : Addr) (cl : List (Str × Addr)) (fp : List Addr), SE (X.blk s' H s (compEnvC s cl C X.env) fp) W0 relt q)
    (hf : ∀ (s' : Shared) (H : Hp) (C : Addr) (cl : List (Str × Addr)) (fp : List Addr), SEc (X.blk s' H s (compEnvC s cl C X.env) fp) W0 rc ifs) :
    (∀ σV H Q, tE X.K W (rComp live tg kk (rdL Γ es) relt.1 (rc.map (·.2))) σV H Q → tLc wi (gOf X.K tg) (ttOf X.K (rc.map (·.2))) (tE X.K W0 relt.1) ((ownOf N tg).map (·.2)) σV H Q) ∧
    (∀ (s' : Shared) (H : Hp) (C : Addr) (cl : List (Str × Addr)) (fp : List Addr), PTs (X.blk s' H s (compEnvC s cl C X.env) fp) ifs (ttOf X.K (rc.map (·.2)))) ∧ BlkOk X.N X.env.scope s (ownOf N tg) := by
  refine ⟨fun σV H Q h => ?_, fun s' H C cl fp => ?_, by rw [G.n, G.sc]; exact blkOk_by hb⟩
  · rw [own_slots]
    obtain ⟨Z, σ, S, QD, ED, s, st, h, g, ge⟩ := h
    refine hw σV H Z σ S ED _ _ s st h ge ?_
    rintro J H1 S1 ds items vs e1 s1 r1 hit wj ⟨h3, h4⟩
    exact l_comp wj s1 (st.mono e1) r1 h3 h4 (g.to e1)
  · have h := hf s' H C cl fp
    cases rc with
    | none =>
      cases ifs with
      | nil => exact pts_nil
      | cons _ _ => exact h.elim
    | some r =>
      cases ifs with
      | nil => exact h.elim
      | cons e es =>
        cases es with
        | nil => exact pts_one h.2.1
        | cons _ _ => exact h.elim
end
end DL

set_option linter.all false
set_option autoImplicit false
set_option maxHeartbeats 1000000
namespace DL
open PySem PySem.Spec PyProof.Rows L2 TL
section
variable {Γ : Gam} {k : Nat} {N : List Str}
theorem plain_of {x : Str} (h : plainN x = true) : (x == ("__debug__" : Str)) = false ∧ (x == ("__classdict__" : Str)) = false := by
  unfold plainN at h
  simp only [Bool.and_eq_true, Bool.not_eq_true'] at h
  exact ⟨h.1, h.2.1⟩
theorem okTx_ok {q : Tx} (h : okTx q = true) : TxOk q := by
  unfold okTx at h
  simp only [Bool.and_eq_true, decide_eq_true_eq, List.all_eq_true] at h
  exact ⟨by rw [sizeLine_eq]; omega, fun c hc => by have := h.2 c hc; omega⟩
theorem replL_one {c : Nat} {z : List Nat} : ∀ s : List Nat, StrLaws.replL [c] z s = repl1 c z s
  | [] => by rw [StrLaws.replL_nil]; rfl
  | x :: s => by
    by_cases e : x = c
    · rw [StrLaws.replL_hit (by simp) (by simp [e])]
      show z ++ StrLaws.replL [c] z s = _
      rw [replL_one s]
      unfold repl1
      rw [List.flatMap_cons, if_pos e]
    · rw [StrLaws.replL_miss (by simp [e]), replL_one s]
      unfold repl1
      rw [List.flatMap_cons, if_neg e]
      rfl
theorem repl1_len (c : Nat) (z : Tx) : ∀ s : Tx, (repl1 c z s).length ≤ s.length + (s.length + 1) * z.length
  | [] => by unfold repl1; simp
  | x :: s => by
    have ih := repl1_len c z s
    unfold repl1 at ih ⊢
    rw [List.flatMap_cons, List.length_append, List.length_cons]
    have e : (s.length + 1 + 1) * z.length = (s.length + 1) * z.length + z.length := by rw [Nat.add_mul _ 1, Nat.one_mul]
    rw [e]
    split
    · omega
    · simp only [List.length_singleton]; omega
theorem l_rep {K : PySem.W.Frag} {c : Nat} {z : Tx} (hz : TxOk z) : ∀ (Z H : Hp) (S : DS) (v : V) (d : D) (Q : QD) (Qv : VK), Sim K Z H S → RepV K (fz Z H S) d v → repD c z d S Q → Got K Z H S Q Qv →
    ∃ x, v = .str x ∧ x.length + (x.length + 1) * (tS z).length ≤ 16777216 ∧ Qv (.str (Txt.replace x (tS [c]) (tS z))) H := by
  intro Z H S v d Q Qv s r ⟨t, e, hl, q⟩ g
  subst e
  simp only [RepV] at r
  obtain ⟨rv, ok⟩ := r
  have e2 : Txt.replace (tS t) (tS [c]) (tS z) = tS (repl1 c z t) := by
    rw [← tS_of (Txt.replace (tS t) (tS [c]) (tS z)), StrLaws.replace_list (by rw [tS_length]; simp), tS_cps, tS_cps, tS_cps, replL_one]
  refine ⟨tS t, rv, by rw [tS_length, tS_length]; exact hl, ?_⟩
  rw [e2]
  refine g.here s ?_ q
  simp only [RepV]
  refine ⟨trivial, Nat.le_trans (repl1_len c z t) (by rw [sizeLine_eq]; exact hl), fun x hx => ?_⟩
  unfold repl1 at hx
  rw [List.mem_flatMap] at hx
  obtain ⟨y, h1, h2⟩ := hx
  split at h2
  · exact hz.2 x h2
  · rw [List.mem_singleton] at h2; subst h2; exact ok.2 x h1
section
variable {calm : Bool} {sc : Scope} {X : Cx} {W : WX}
theorem po_of {o : Option (RV × RT)} {e : Option Expr} (h : SEo X W o e) : ∃ t, PO X e t ∧ ((o.map (·.1) = none ∧ t = tNoPart) ∨ ∃ l, o.map (·.1) = some l ∧ t = tPart (tE X.K W l)) := by
  cases o with
  | none =>
    cases e with
    | none => exact ⟨_, po_none, .inl ⟨rfl, rfl⟩⟩
    | some _ => exact h.elim
  | some r =>
    cases e with
    | none => exact h.elim
    | some e => exact ⟨_, po_some h.1, .inr ⟨_, rfl, rfl⟩⟩
theorem se_isN {n : Bool} {q : CmpOp} {a : Expr} {j : Nat} {p pos : Pos} {r : RV × RT} (hq : (match n, q with
    | false, .Is => true
    | true, .IsNot => true
    | _, _ => false) = true) (ha : SE X W r a) : SE X W (r1 r.1 (dIsN n), rBl (r1 r.1 (dIsN n))) (.Compare a [q] [.Constant .none j p] pos) := by
  have L : ∀ (Z H : Hp) (S : DS) (x : V) (d : D) (Q : QD) (Qv : VK), Sim X.K Z H S → RepV X.K (fz Z H S) d x → dIsN n d S Q → Got X.K Z H S Q Qv → Qv (.bl (if n then !decide (x = .non) else decide (x = .non))) H :=
    fun Z H S x d Q Qv s r h g => l_isN s r h g
  have hm : behindInMarks q (.Constant .none j p) = false := noSet_mark rfl q
  cases n with
  | false =>
    cases q <;> try (cases hq; done)
    refine ⟨(pe_cmpR op_isN ha.1 pe_non hm).imp fun σ H Q h => ?_, (pt_cmpR op_isN ha.1 pe_non hm).imp fun σ H Q h => ?_, rfl⟩
    · obtain ⟨Z, σ, S, QD, ED, s, st, h, g, ge⟩ := tE_1 (r := fun x H Q => Q (.bl (decide (x = .non))) H) L h
      exact ⟨Z, σ, S, QD, ED, s, st, h, fun v H' d S' a b c e => ⟨rfl, g v H' d S' a b c e⟩, ge⟩
    · obtain ⟨Z, σ, S, QD, ED, s, st, h, g, ge⟩ := tE_1 (r := fun x H Q => Q (.bl (decide (x = .non))) H) L (tE_bl h)
      exact ⟨Z, σ, S, QD, ED, s, st, h, fun v H' d S' a b c e => ⟨rfl, g v H' d S' a b c e⟩, ge⟩
  | true =>
    cases q <;> try (cases hq; done)
    refine ⟨(pe_cmpR op_notN ha.1 pe_non hm).imp fun σ H Q h => ?_, (pt_cmpR op_notN ha.1 pe_non hm).imp fun σ H Q h => ?_, rfl⟩
    · obtain ⟨Z, σ, S, QD, ED, s, st, h, g, ge⟩ := tE_1 (r := fun x H Q => Q (.bl (!decide (x = .non))) H) L h
      exact ⟨Z, σ, S, QD, ED, s, st, h, fun v H' d S' a b c e => ⟨rfl, g v H' d S' a b c e⟩, ge⟩
    · obtain ⟨Z, σ, S, QD, ED, s, st, h, g, ge⟩ := tE_1 (r := fun x H Q => Q (.bl (!decide (x = .non))) H) L (tE_bl h)
      exact ⟨Z, σ, S, QD, ED, s, st, h, fun v H' d S' a b c e => ⟨rfl, g v H' d S' a b c e⟩, ge⟩
theorem se_dnew {pos : Pos} : SE X W (rDnew, rTru rDnew) (.Dict [] [] pos) := by
  refine se_tru (pe_dnewK.imp fun σ H Q h => ?_) rfl fun _ => rfl
  obtain ⟨Z, σ, S, QD, ED, s, st, h, g, ge⟩ := h
  intro p hp
  obtain ⟨s1, e1, hS⟩ := s.newL hp (.dK []) (.dct []) ⟨[], L2.upd_same, by simp only [RepK]⟩
  exact g (.ref p) _ (.ref p) _ e1 s1 (by simp only [RepV]) (h p hS)
theorem se_glob (G : Good Γ k N calm sc X) {x : Str} {f : String} {p : Pos} {o : Option D} (ho : Γ.gv f = o) (h : glB sc x f = true) : SE X W (rOf o, rTru (rOf o)) (.Name x p) := by
  refine se_tru ?_ rfl fun _ => rfl
  cases o with
  | none => exact pe_never fun σ H Q h => tE_false h
  | some d =>
    obtain ⟨e1, hg, hd, _⟩ := G.gl h
    obtain ⟨u, v, hm, r, hr⟩ := G.gam.gv f d ho
    exact (pe_glob hg (by rw [e1]; exact hm) r hd).imp fun σ H Q q => tE_C hr q
end
mutual
theorem sE : ∀ (x : XE) {calm : Bool} {sc : Scope} {X : Cx} {W : WX} {e : Expr}, Good Γ k N calm sc X → Takes X W → chkE N calm sc x e = true → SE X W (rd Γ x) e
  | .var i, calm, sc, X, W, e, G, tk, h => by
    cases e <;> try (cases h; done)
    rename_i x p
    have h : (decide (N[i]? = some x) && (isVis (sc.names.lookup x) && plainN x)) = true := h
    simp only [Bool.and_eq_true, decide_eq_true_eq] at h
    obtain ⟨h1, h2, h3⟩ := h
    exact se_tru (pe_V (by rw [G.n]; exact h1) (G.vis h2) (plain_of h3).1 (plain_of h3).2) rfl fun _ => rfl
  | .cN, calm, sc, X, W, e, G, tk, h => by
    cases e <;> try (cases h; done)
    rename_i c j p
    cases c <;> try (cases h; done)
    exact se_tru (pe_non.imp fun _ _ _ q => tE_C (fun F => by simp only [RepV]) q) rfl fun _ => rfl
  | .cB b, calm, sc, X, W, e, G, tk, h => by
    cases e <;> try (cases h; done)
    rename_i c j p
    cases c <;> try (cases h; done)
    rename_i c
    obtain rfl : b = c := beq_iff_eq.mp h
    exact se_tru (pe_bl.imp fun _ _ _ q => tE_C (fun F => by simp only [RepV]) q) rfl fun _ => rfl
  | .cI i, calm, sc, X, W, e, G, tk, h => by
    cases e <;> try (cases h; done)
    rename_i c j p
    cases c <;> try (cases h; done)
    rename_i c
    obtain rfl : i = c := of_decide_eq_true h
    exact se_tru (pe_int.imp fun _ _ _ q => tE_C (fun F => by simp only [RepV]) q) rfl fun _ => rfl
  | .cS t, calm, sc, X, W, e, G, tk, h => by
    cases e <;> try (cases h; done)
    rename_i c j p
    cases c <;> try (cases h; done)
    rename_i c
    have h : (decide (c = tS t) && (decide (t.length ≤ 1000) && t.all fun c => decide (c < 1000))) = true := h
    simp only [Bool.and_eq_true, decide_eq_true_eq, List.all_eq_true] at h
    obtain ⟨h1, h2, h3⟩ := h
    subst h1
    exact se_tru (pe_str.imp fun _ _ _ q => tE_C (fun F => by simp only [RepV]; exact ⟨trivial, by rw [sizeLine_eq]; omega, fun c hc => by have := h3 c hc; omega⟩) q) rfl fun _ => rfl
  | .glob f, calm, sc, X, W, e, G, tk, h => by
    cases e <;> try (cases h; done)
    exact se_glob G rfl h
  | .bin o a b, calm, sc, X, W, e, G, tk, h => by
    cases e <;> try (cases h; done)
    rename_i p q r pos
    have h : (o.ok q && (chkE N calm sc a p && chkE N calm sc b r)) = true := h
    simp only [Bool.and_eq_true] at h
    exact se_tru ((pe_op (bin_op h.1) (sE a G tk h.2.1).1 (sE b G tk h.2.2).1).imp fun _ _ _ q => tE_r2 (bin_l o) q) rfl fun _ => rfl
  | .neg a, calm, sc, X, W, e, G, tk, h => by
    cases e <;> try (cases h; done)
    rename_i u p pos
    cases u <;> try (cases h; done)
    exact se_tru ((pe_un un_neg (sE a G tk h).1).imp fun _ _ _ q => tE_1 l_neg q) rfl fun _ => rfl
  | .not a, calm, sc, X, W, e, G, tk, h => by
    cases e <;> try (cases h; done)
    rename_i u p pos
    cases u <;> try (cases h; done)
    exact ⟨(pe_notT (sE a G tk h).1).imp fun _ _ _ q => tE_1 (r := fun x H Q => ∃ k, TruV X.K x H k ∧ Q (.bl (!k)) H) l_not q, (pt_not (sE a G tk h).2.1).imp fun _ _ _ q => tT_not q, rfl⟩
  | .and l, calm, sc, X, W, e, G, tk, h => by
    cases e <;> try (cases h; done)
    rename_i o ps pos
    cases o <;> try (cases h; done)
    have h : (!l.isEmpty && chkEs N calm sc l ps) = true := h
    rw [Bool.and_eq_true] at h
    have hne : rds Γ l ≠ [] := by
      cases l with
      | nil => cases h.1
      | cons _ _ => simp [rds]
    exact ⟨pe_andC (sEs l G tk h.2) hne, (pw_andC (sEs l G tk h.2) hne).pt, rfl⟩
  | .or l, calm, sc, X, W, e, G, tk, h => by
    cases e <;> try (cases h; done)
    rename_i o ps pos
    cases o <;> try (cases h; done)
    have h : (!l.isEmpty && chkEs N calm sc l ps) = true := h
    rw [Bool.and_eq_true] at h
    have hne : rds Γ l ≠ [] := by
      cases l with
      | nil => cases h.1
      | cons _ _ => simp [rds]
    exact ⟨pe_orC (sEs l G tk h.2) hne, (pw_orC (sEs l G tk h.2) hne).pt, rfl⟩
  | .cmp o a b, calm, sc, X, W, e, G, tk, h => by
    cases e <;> try (cases h; done)
    rename_i p qs rs pos
    cases qs with
    | nil => cases h
    | cons q qs =>
      cases qs with
      | cons _ _ => cases h
      | nil =>
        cases rs with
        | nil => cases h
        | cons r rs =>
          cases rs with
          | cons _ _ => cases h
          | nil =>
            have h : (o.ok q && (noSet r && (chkE N calm sc a p && chkE N calm sc b r))) = true := h
            simp only [Bool.and_eq_true] at h
            obtain ⟨h1, h2, h3, h4⟩ := h
            have ho := cmp_op G.hu h1
            exact ⟨(pe_cmpR ho (sE a G tk h3).1 (sE b G tk h4).1 (noSet_mark h2 _)).imp fun _ _ _ q => tE_r2 (cmp_l o) q,
              (pt_cmpR ho (sE a G tk h3).1 (sE b G tk h4).1 (noSet_mark h2 _)).imp fun _ _ _ q => tE_r2 (cmp_l o) (tE_bl q), rfl⟩
  | .isN n a, calm, sc, X, W, e, G, tk, h => by
    cases e <;> try (cases h; done)
    rename_i p qs rs pos
    cases qs with
    | nil => cases h
    | cons q qs =>
      cases qs with
      | cons _ _ => cases h
      | nil =>
        cases rs with
        | nil => cases h
        | cons r rs =>
          cases rs with
          | cons _ _ => cases r <;> try (cases h; done)
                        rename_i c _ _
                        cases c <;> cases h
          | nil =>
            cases r <;> try (cases h; done)
            rename_i c _ _
            cases c <;> try (cases h; done)
            have h := Bool.and_eq_true_iff.mp h
            exact se_isN h.1 (sE a G tk h.2)
  | .chain o o' a b c, calm, sc, X, W, e, G, tk, h => by
    cases e <;> try (cases h; done)
    rename_i p qs rs pos
    cases qs with
    | nil => cases h
    | cons q qs =>
      cases qs with
      | nil => cases h
      | cons q' qs =>
        cases qs with
        | cons _ _ => cases h
        | nil =>
          cases rs with
          | nil => cases h
          | cons r rs =>
            cases rs with
            | nil => cases h
            | cons t rs =>
              cases rs with
              | cons _ _ => cases h
              | nil =>
                have h : (o.ok q && (o'.ok q' && (o.chainOk && (o'.chainOk && (noSet r && (noSet t && (chkE N calm sc a p && (chkE N calm sc b r && chkE N calm sc c t)))))))) = true := h
                simp only [Bool.and_eq_true] at h
                obtain ⟨h1, h2, h3, h4, h5, h6, h7, h8, h9⟩ := h
                have e1 := op_ok h3 h1
                have e2 := op_ok h4 h2
                subst e1 e2
                have hm : lastMarks [o.toOrd.op, o'.toOrd.op] [r, t] = false := noSet_mark h6 _
                exact ⟨(pe_chain (op_ord _) (op_ord _) (sE a G tk h7).1 (sE b G tk h8).1 (sE c G tk h9).1 hm).imp fun _ _ _ q => tE_chain h3 h4 q,
                  (pt_chain (op_ord _) (op_ord _) (sE a G tk h7).1 (sE b G tk h8).1 (sE c G tk h9).1 hm).imp fun _ _ _ q => tE_chain h3 h4 (tE_bl q), rfl⟩
  | .ite c a b, calm, sc, X, W, e, G, tk, h => by
    cases e <;> try (cases h; done)
    rename_i p q r pos
    have h : (chkE N calm sc c p && (chkE N calm sc a q && chkE N calm sc b r)) = true := h
    simp only [Bool.and_eq_true] at h
    refine ⟨(pe_ifExp (sE c G tk h.1).2.1 (sE a G tk h.2.1).1 (sE b G tk h.2.2).1).imp fun _ _ _ q => tE_ite q, pt_never fun σ H Q q => ?_, rfl⟩
    obtain ⟨Z, σ, S, QD, ED, s, st, h, g, ge⟩ := q
    exact h
  | .lst live es, calm, sc, X, W, e, G, tk, h => by
    cases e <;> try (cases h; done)
    exact se_tru ((pe_lst (sEs es G tk h).pa).imp fun _ _ _ q => tL_S (r := fun _ xs H Q => xs.length ≤ sizeLine ∧ ∀ p, H p = none → Q (.ref p) (upd H p (.lst xs))) l_lst q) rfl fun _ => rfl
  | .tup es, calm, sc, X, W, e, G, tk, h => by
    cases e <;> try (cases h; done)
    exact se_tru ((pe_tup (sEs es G tk h).pa).imp fun _ _ _ q => tL_S (r := fun _ xs H Q => xs.length ≤ sizeLine ∧ ∀ p, H p = none → Q (.ref p) (upd H p (.tup xs))) l_tup q) rfl fun _ => rfl
  | .idx a b, calm, sc, X, W, e, G, tk, h => by
    cases e <;> try (cases h; done)
    rename_i p q pos
    have h : (noSlice q && (chkE N calm sc a p && chkE N calm sc b q)) = true := h
    simp only [Bool.and_eq_true] at h
    exact se_tru ((pe_ix ix_seq (sE a G tk h.2.1).1 (sE b G tk h.2.2).1 (noSlice_ix h.1)).imp fun _ _ _ q => tE_r2 l_idx q) rfl fun _ => rfl
  | .sl live a lo hi, calm, sc, X, W, e, G, tk, h => by
    cases e <;> try (cases h; done)
    rename_i p q pos
    cases q <;> try (cases h; done)
    rename_i l u st p2
    cases st <;> try (cases h; done)
    have h : (chkE N calm sc a p && (chkO N calm sc lo l && chkO N calm sc hi u)) = true := h
    simp only [Bool.and_eq_true] at h
    obtain ⟨t1, h1, h2⟩ := po_of (sO lo G tk h.2.1)
    obtain ⟨t2, h3, h4⟩ := po_of (sO hi G tk h.2.2)
    exact se_tru ((pe_slice sl_all (sE a G tk h.1).1 h1 h3).imp fun _ _ _ q => tE_sl h2 h4 q) rfl fun _ => rfl
  | .comp live tg kk es elt cond, calm, sc, X, W, e, G, tk, h => by
    cases e <;> try (cases h; done)
    rename_i q gs s pos
    cases gs with
    | nil => cases h
    | cons g gs =>
      cases gs with
      | cons _ _ =>
        obtain ⟨t, it, ifs, as⟩ := g
        cases as <;> try (cases h; done)
        rename_i z
        cases z <;> cases h
      | nil =>
        obtain ⟨t, it, ifs, as⟩ := g
        cases as <;> try (cases h; done)
        rename_i z
        cases z <;> try (cases h; done)
        have h : (calm && (chkI N calm sc kk es it && (blkC N sc s (ownOf N tg) && (tgB N s tg t && (chkE N calm (relS s sc) elt q && chkC N calm (relS s sc) cond ifs))))) = true := h
        simp only [Bool.and_eq_true] at h
        obtain ⟨h1, h2, h3, h4, h5, h6⟩ := h
        obtain ⟨wi, i1, i2, i3⟩ := sI es kk t G tk h2
        have hcc := (G.calm h1).1
        obtain ⟨a1, a2, a3⟩ := se_comp G h1 i1 i2 h3 h4 i3 (fun s' H C cl fp => sE elt (G.blk s s' H C cl fp) takes0 h5) (fun s' H C cl fp => sC cond (G.blk s s' H C cl fp) takes0 h6)
        exact se_tru ((pe_lc hcc G.nd i1 a3 (blk_tg G hcc h4) a2 (fun s' H C cl fp => (sE elt (G.blk s s' H C cl fp) takes0 h5).1) i3).imp a1) rfl fun _ => rfl
  | .call f es, calm, sc, X, W, e, G, tk, h => by
    cases e <;> try (cases h; done)
    rename_i fn ps ks pos
    cases fn <;> try (cases h; done)
    cases ks <;> try (cases h; done)
    rename_i x p
    have h : (calm && (!ps.isEmpty && (glB sc x f && chkEs N calm sc es ps))) = true := h
    simp only [Bool.and_eq_true] at h
    obtain ⟨h1, h2, h3, h4⟩ := h
    cases ps with
    | nil => cases h2
    | cons a as => exact se_tru (pe_fn rfl G h1 tk h3 (sEs es G tk h4).nice (sEs es G tk h4).pa) rfl fun _ => rfl
  | .bi b es, calm, sc, X, W, e, G, tk, h => by
    cases e <;> try (cases h; done)
    rename_i fn ps ks pos
    cases fn <;> try (cases h; done)
    cases ks <;> try (cases h; done)
    rename_i x p
    have h : (calm && (!ps.isEmpty && (glB sc x b.name && chkEs N calm sc es ps))) = true := h
    simp only [Bool.and_eq_true] at h
    obtain ⟨h1, h2, h3, h4⟩ := h
    cases ps with
    | nil => cases h2
    | cons a as => exact se_tru (pe_bi G h1 h3 (sEs es G tk h4).nice (sEs es G tk h4).pa) rfl fun _ => rfl
  | .sm m o es, calm, sc, X, W, e, G, tk, h => by
    cases e <;> try (cases h; done)
    rename_i fn ps ks cp
    cases fn <;> try (cases h; done)
    cases ks <;> try (cases h; done)
    rename_i p x ap
    have h : (decide (x = Str.ofString m.name) && (ap.endLine == cp.line && (decide (es.length = m.ar) && (chkE N calm sc o p && chkEs N calm sc es ps)))) = true := h
    simp only [Bool.and_eq_true, decide_eq_true_eq] at h
    obtain ⟨h1, h2, h3, h4, h5⟩ := h
    subst h1
    have A := sEs es G tk h5
    have hl : ps.length = m.ar := by rw [A.len, rds_length, h3]
    cases ps with
    | nil => cases m <;> cases hl
    | cons a as => exact se_tru (pe_sm h2 (sE o G tk h4).2.2 A.nice hl (sE o G tk h4).1 A.pa) rfl fun _ => rfl
  | .lm m o es, calm, sc, X, W, e, G, tk, h => by
    cases e <;> try (cases h; done)
    rename_i fn ps ks cp
    cases fn <;> try (cases h; done)
    cases ks <;> try (cases h; done)
    rename_i p x ap
    have h : (decide (x = Str.ofString m.name) && (ap.endLine == cp.line && (decide (es.length = m.ar) && (chkE N calm sc o p && chkEs N calm sc es ps)))) = true := h
    simp only [Bool.and_eq_true, decide_eq_true_eq] at h
    obtain ⟨h1, h2, h3, h4, h5⟩ := h
    subst h1
    have A := sEs es G tk h5
    have hl : ps.length = m.ar := by rw [A.len, rds_length, h3]
    cases ps with
    | nil =>
      have he : es = [] := by
        have := A.len
        rw [rds_length] at this
        exact List.length_eq_zero_iff.mp this.symm
      subst he
      cases m <;> try (cases hl; done)
      exact se_tru (pe_lm0 h2 (sE o G tk h4).2.2 (sE o G tk h4).1) rfl fun _ => rfl
    | cons a as => exact se_tru (pe_lm h2 (sE o G tk h4).2.2 A.nice hl (sE o G tk h4).1 A.pa) rfl fun _ => rfl
  | .om C m o es, calm, sc, X, W, e, G, tk, h => by
    cases e <;> try (cases h; done)
    rename_i fn ps ks cp
    cases fn <;> try (cases h; done)
    cases ks <;> try (cases h; done)
    rename_i p x ap
    have h : (calm && (decide (x = Str.ofString m) && (ap.endLine == cp.line && (decide (ps.length < 20) && (chkE N calm sc o p && chkEs N calm sc es ps))))) = true := h
    simp only [Bool.and_eq_true, decide_eq_true_eq] at h
    obtain ⟨h0, h1, h2, h3, h4, h5⟩ := h
    subst h1
    have A := sEs es G tk h5
    refine se_tru (pe_mt rfl G h0 tk h2 (sE o G tk h4).2.2 A.nice h3 (sE o G tk h4).1 A.pa fun hp => ?_) rfl fun _ => rfl
    subst hp
    have he : es = [] := by
      have := A.len
      rw [rds_length] at this
      exact List.length_eq_zero_iff.mp this.symm
    subst he
    rfl
  | .new C es, calm, sc, X, W, e, G, tk, h => by
    cases e <;> try (cases h; done)
    rename_i fn ps ks pos
    cases fn <;> try (cases h; done)
    cases ks <;> try (cases h; done)
    rename_i x p
    have h : (calm && (!ps.isEmpty && (glB sc x C && chkEs N calm sc es ps))) = true := h
    simp only [Bool.and_eq_true] at h
    obtain ⟨h1, h2, h3, h4⟩ := h
    cases ps with
    | nil => cases h2
    | cons a as => exact se_tru (pe_new rfl G h1 tk h3 (sEs es G tk h4).nice (sEs es G tk h4).pa) rfl fun _ => rfl
  | .fld o f, calm, sc, X, W, e, G, tk, h => by
    cases e <;> try (cases h; done)
    rename_i p x pos
    have h : (decide (x = Str.ofString f) && chkE N calm sc o p) = true := h
    simp only [Bool.and_eq_true, decide_eq_true_eq] at h
    obtain ⟨h1, h2⟩ := h
    subst h1
    have A := sE o G tk h2
    exact se_tru ((pe_fld A.1 (nice_base A.2.2 _ _)).imp fun _ _ _ q => tE_1 (r := fun x H Q => ∃ a C dx fs v, x = .ref a ∧ H a = some (.ins C dx fs) ∧ Cls X.K C ∧ NoAttr X.K C (Str.ofString f) ∧ fs.lookup (Str.ofString f) = some v ∧ Q v H) (l_fld G.gam) q) rfl fun _ => rfl
  | .xfld o f, calm, sc, X, W, e, G, tk, h => by
    cases e <;> try (cases h; done)
    rename_i p x pos
    have h : (decide (x = Str.ofString f) && chkE N calm sc o p) = true := h
    simp only [Bool.and_eq_true, decide_eq_true_eq] at h
    obtain ⟨h1, h2⟩ := h
    subst h1
    have A := sE o G tk h2
    exact se_tru ((pe_xfl A.1 (nice_base A.2.2 _ _)).imp fun _ _ _ q => tE_1 (l_xfld G.gam) q) rfl fun _ => rfl
  | .isin o T, calm, sc, X, W, e, G, tk, h => by
    cases e <;> try (cases h; done)
    rename_i fn ps ks pos
    cases fn <;> try (cases h; done)
    rename_i x px
    cases ps with
    | nil => cases h
    | cons p ps =>
      cases ps with
      | nil => cases h
      | cons c ps =>
        cases c <;> try (cases h; done)
        rename_i y py
        cases ps with
        | cons _ _ => cases h
        | nil =>
          cases ks <;> try (cases h; done)
          have h : (glB sc x "isinstance" && (glB sc y T && (["bool", "int", "str", "list", "tuple"].contains T && chkE N calm sc o p))) = true := h
          simp only [Bool.and_eq_true] at h
          obtain ⟨h1, h2, h3, h4⟩ := h
          exact se_tru (pe_isin G h1 h2 h3 (sE o G tk h4).2.2 (sE o G tk h4).1) rfl fun _ => rfl
  | .isex o T, calm, sc, X, W, e, G, tk, h => by
    cases e <;> try (cases h; done)
    rename_i fn ps ks pos
    cases fn <;> try (cases h; done)
    rename_i x px
    cases ps with
    | nil => cases h
    | cons p ps =>
      cases ps with
      | nil => cases h
      | cons c ps =>
        cases c <;> try (cases h; done)
        rename_i y py
        cases ps with
        | cons _ _ => cases h
        | nil =>
          cases ks <;> try (cases h; done)
          have h : (glB sc x "isinstance" && (glB sc y T && ((exAll.contains T || T == "ValueError") && chkE N calm sc o p))) = true := h
          have h := Bool.and_eq_true_iff.mp h
          have h' := Bool.and_eq_true_iff.mp h.2
          have h'' := Bool.and_eq_true_iff.mp h'.2
          exact se_tru (pe_isex G h.1 h'.1 h''.1 (sE o G tk h''.2).2.2 (sE o G tk h''.2).1) rfl fun _ => rfl
  | .dnew, calm, sc, X, W, e, G, tk, h => by
    cases e <;> try (cases h; done)
    rename_i ks vs pos
    cases ks <;> try (cases h; done)
    cases vs <;> try (cases h; done)
    exact se_dnew
  | .dix o kk, calm, sc, X, W, e, G, tk, h => by
    cases e <;> try (cases h; done)
    rename_i p q pos
    have h : (noSlice q && (chkE N calm sc o p && chkE N calm sc kk q)) = true := h
    simp only [Bool.and_eq_true] at h
    exact se_tru (pe_dixl (by have := G.hu; omega) (sE o G tk h.2.1).1 (sE kk G tk h.2.2).1 h.1) rfl fun _ => rfl
  | .gIn n kk x, calm, sc, X, W, e, G, tk, h => by
    cases e <;> try (cases h; done)
    rename_i p qs rs pos
    cases qs with
    | nil => cases h
    | cons q qs =>
      cases qs with
      | cons _ _ => cases h
      | nil =>
        cases rs with
        | nil => cases h
        | cons r rs =>
          cases rs with
          | cons _ _ => cases r <;> cases h
          | nil =>
            cases r <;> try (cases h; done)
            rename_i y py
            have h := Bool.and_eq_true_iff.mp h
            have h' := Bool.and_eq_true_iff.mp h.2
            exact ⟨(pe_gInl G rfl h.1 h'.1 (sE kk G tk h'.2).1).1, (pe_gInl G rfl h.1 h'.1 (sE kk G tk h'.2).1).2, rfl⟩
  | .gIx x kk, calm, sc, X, W, e, G, tk, h => by
    cases e <;> try (cases h; done)
    rename_i p q pos
    cases p <;> try (cases h; done)
    rename_i y py
    have h : (glB sc y x && (noSlice q && chkE N calm sc kk q)) = true := h
    simp only [Bool.and_eq_true] at h
    exact se_tru (pe_gIxl G rfl h.1 (sE kk G tk h.2.2).1 h.2.1) rfl fun _ => rfl
  | .rep o c z, calm, sc, X, W, e, G, tk, h => by cases e <;> cases h
  | .qadd q r, calm, sc, X, W, e, G, tk, h => by
    cases e <;> try (cases h; done)
    rename_i a op p pos
    cases a <;> try (cases h; done)
    rename_i cc j pc
    cases cc <;> try (cases h; done)
    rename_i x
    cases op <;> try (cases h; done)
    have h : (decide (x = tS q) && (okTx q && chkR N calm sc r p)) = true := h
    simp only [Bool.and_eq_true, decide_eq_true_eq] at h
    obtain ⟨h1, h2, h3⟩ := h
    subst h1
    refine se_tru ?_ rfl fun _ => rfl
    have A := (sR r G tk h3).1
    constructor
    intro pn s0 sv H Q I hw
    have hw2 := tE_r2 (l_add (K := X.K) (live := false)) hw
    obtain ⟨Z, σ, S, QD, ED, s, st, h, g, ge⟩ := hw2
    have hq := g.here s (v := .str (tS q)) (by simp only [RepV]; exact ⟨trivial, okTx_ok h2⟩) h
    refine wpAny_BinOp (Calls.Constant_str ?_)
    exact thn (A pn { s0 with toks := s0.toks + 1 } sv H _ (Nat.le_add_left 1 s0.toks) (I.tok _) hq) fun u s2 ⟨y, H2, I2, r2, q2⟩ => op_addA pn s2 sv H2 (.str (tS q)) y _ u Q I2 ⟨_, rfl⟩ r2 q2
theorem sR : ∀ (x : XE) {calm : Bool} {sc : Scope} {X : Cx} {W : WX} {e : Expr}, Good Γ k N calm sc X → Takes X W → chkR N calm sc x e = true → L2.PET X e (tE X.K W (rd Γ x).1) ∧ nice e = true
  | .rep o c z, calm, sc, X, W, e, G, tk, h => by
    cases e <;> try (cases h; done)
    rename_i fn ps ks cp
    cases fn <;> try (cases h; done)
    rename_i p x ap
    cases ps with
    | nil => cases h
    | cons a ps =>
      cases a <;> try (cases h; done)
      rename_i ca j1 p1
      cases ca <;> try (cases h; done)
      rename_i a
      cases ps with
      | nil => cases h
      | cons b ps =>
        cases b <;> try (cases h; done)
        rename_i cb j2 p2
        cases cb <;> try (cases h; done)
        rename_i b
        cases ps with
        | cons _ _ => cases h
        | nil =>
          cases ks <;> try (cases h; done)
          have h : (decide (x = Str.ofString "replace") && (ap.endLine == cp.line && (decide (a = tS [c]) && (decide (b = tS z) && (okTx z && (decide ([c] ≠ z) && (chkR N calm sc o p || chkE N calm sc o p))))))) = true := h
          rw [Bool.and_eq_true, Bool.and_eq_true, Bool.and_eq_true, Bool.and_eq_true, Bool.and_eq_true, Bool.and_eq_true] at h
          obtain ⟨h1, h2, h3, h4, h5, h6, h7⟩ := h
          have e1 := of_decide_eq_true h1
          have e3 := of_decide_eq_true h3
          have e4 := of_decide_eq_true h4
          subst e1 e3 e4
          have hyz : (tS [c] == tS z) = false := beq_eq_false_iff_ne.mpr fun q => of_decide_eq_true h6 (tS_inj q)
          have L : ∀ (Z H : Hp) (S : DS) (v : V) (d : D) (Q : QD) (Qv : VK), Sim X.K Z H S → RepV X.K (fz Z H S) d v → repD c z d S Q → Got X.K Z H S Q Qv → ∃ x, v = .str x ∧ x.length + (x.length + 1) * (tS z).length ≤ 16777216 ∧ Qv (.str (Txt.replace x (tS [c]) (tS z))) H := l_rep (okTx_ok h5)
          have PEo : L2.PET X p (tE X.K W (rd Γ o).1) ∧ nice p = true := by
            rw [Bool.or_eq_true] at h7
            rcases h7 with h7 | h7
            · exact sR o G tk h7
            · exact ⟨CwR.PET.of (sE o G tk h7).1, (sE o G tk h7).2.2⟩
          refine ⟨fun pn s0 sv H Q h0 I hw => ?_, rfl⟩
          exact CwR.pet_replT PEo.1 hyz rfl (nice_base PEo.2 _ _) h2 pn s0 sv H Q h0 I (tE_1 (r := fun v H Q => ∃ x, v = .str x ∧ x.length + (x.length + 1) * (tS z).length ≤ 16777216 ∧ Q (.str (Txt.replace x (tS [c]) (tS z))) H) L hw)
  | .var i, calm, sc, X, W, e, G, tk, h => by cases e <;> cases h
  | .cN, calm, sc, X, W, e, G, tk, h => by cases e <;> cases h
  | .cB b, calm, sc, X, W, e, G, tk, h => by cases e <;> cases h
  | .cI b, calm, sc, X, W, e, G, tk, h => by cases e <;> cases h
  | .cS b, calm, sc, X, W, e, G, tk, h => by cases e <;> cases h
  | .glob b, calm, sc, X, W, e, G, tk, h => by cases e <;> cases h
  | .bin o a b, calm, sc, X, W, e, G, tk, h => by cases e <;> cases h
  | .neg a, calm, sc, X, W, e, G, tk, h => by cases e <;> cases h
  | .not a, calm, sc, X, W, e, G, tk, h => by cases e <;> cases h
  | .and l, calm, sc, X, W, e, G, tk, h => by cases e <;> cases h
  | .or l, calm, sc, X, W, e, G, tk, h => by cases e <;> cases h
  | .cmp o a b, calm, sc, X, W, e, G, tk, h => by cases e <;> cases h
  | .isN n a, calm, sc, X, W, e, G, tk, h => by cases e <;> cases h
  | .chain o o' a b c, calm, sc, X, W, e, G, tk, h => by cases e <;> cases h
  | .ite c a b, calm, sc, X, W, e, G, tk, h => by cases e <;> cases h
  | .lst l es, calm, sc, X, W, e, G, tk, h => by cases e <;> cases h
  | .tup es, calm, sc, X, W, e, G, tk, h => by cases e <;> cases h
  | .idx a b, calm, sc, X, W, e, G, tk, h => by cases e <;> cases h
  | .sl l a b c, calm, sc, X, W, e, G, tk, h => by cases e <;> cases h
  | .comp a b c d f g, calm, sc, X, W, e, G, tk, h => by cases e <;> cases h
  | .call f es, calm, sc, X, W, e, G, tk, h => by cases e <;> cases h
  | .bi b es, calm, sc, X, W, e, G, tk, h => by cases e <;> cases h
  | .sm m o es, calm, sc, X, W, e, G, tk, h => by cases e <;> cases h
  | .lm m o es, calm, sc, X, W, e, G, tk, h => by cases e <;> cases h
  | .om C m o es, calm, sc, X, W, e, G, tk, h => by cases e <;> cases h
  | .new C es, calm, sc, X, W, e, G, tk, h => by cases e <;> cases h
  | .fld o f, calm, sc, X, W, e, G, tk, h => by cases e <;> cases h
  | .xfld o f, calm, sc, X, W, e, G, tk, h => by cases e <;> cases h
  | .isin o f, calm, sc, X, W, e, G, tk, h => by cases e <;> cases h
  | .isex o f, calm, sc, X, W, e, G, tk, h => by cases e <;> cases h
  | .dnew, calm, sc, X, W, e, G, tk, h => by cases e <;> cases h
  | .dix o k, calm, sc, X, W, e, G, tk, h => by cases e <;> cases h
  | .gIn a b c, calm, sc, X, W, e, G, tk, h => by cases e <;> cases h
  | .gIx a b, calm, sc, X, W, e, G, tk, h => by cases e <;> cases h
  | .qadd a b, calm, sc, X, W, e, G, tk, h => by cases e <;> cases h
theorem sEs : ∀ (xs : List XE) {calm : Bool} {sc : Scope} {X : Cx} {W : WX} {es : List Expr}, Good Γ k N calm sc X → Takes X W → chkEs N calm sc xs es = true → AllE X W (rds Γ xs) es
  | [], calm, sc, X, W, es, G, tk, h => by
    cases es with
    | nil => trivial
    | cons _ _ => cases h
  | x :: xs, calm, sc, X, W, es, G, tk, h => by
    cases es with
    | nil => cases h
    | cons e es =>
      have h : (chkE N calm sc x e && chkEs N calm sc xs es) = true := h
      rw [Bool.and_eq_true] at h
      exact ⟨sE x G tk h.1, sEs xs G tk h.2⟩
theorem sO : ∀ (x : Option XE) {calm : Bool} {sc : Scope} {X : Cx} {W : WX} {e : Option Expr}, Good Γ k N calm sc X → Takes X W → chkO N calm sc x e = true → SEo X W (rdo Γ x) e
  | none, calm, sc, X, W, e, G, tk, h => by
    cases e with
    | none => trivial
    | some _ => cases h
  | some x, calm, sc, X, W, e, G, tk, h => by
    cases e with
    | none => cases h
    | some e => exact sE x G tk h
theorem sC : ∀ (x : Option XE) {calm : Bool} {sc : Scope} {X : Cx} {W : WX} {e : List Expr}, Good Γ k N calm sc X → Takes X W → chkC N calm sc x e = true → SEc X W (rdo Γ x) e
  | none, calm, sc, X, W, e, G, tk, h => by
    cases e with
    | nil => trivial
    | cons _ _ => cases h
  | some x, calm, sc, X, W, e, G, tk, h => by
    cases e with
    | nil => cases h
    | cons e es =>
      cases es with
      | nil => exact sE x G tk h
      | cons _ _ => cases h
theorem sI : ∀ (xs : List XE) (kk : ItK) (tg : Expr) {calm : Bool} {sc : Scope} {X : Cx} {W : WX} {e : Expr}, Good Γ k N calm sc X → Takes X W → chkI N calm sc kk xs e = true →
    ∃ wi, PI X tg e wi ∧ WI X kk (rds Γ xs) Γ W wi ∧ ∀ x, foldedSetIterable e X.env x = pure x
  | [], kk, tg, calm, sc, X, W, e, G, tk, h => by cases h
  | [x], kk, tg, calm, sc, X, W, e, G, tk, h => by
    cases kk with
    | seq =>
      have h : (noSet e && chkE N calm sc x e) = true := h
      rw [Bool.and_eq_true] at h
      exact ⟨_, pi_seq (sE x G tk h.2).1, wi_seq, noSet_fold h.1 _⟩
    | range1 =>
      cases e <;> try (cases h; done)
      rename_i fn ps ks pos
      cases fn <;> try (cases h; done)
      rename_i f pf
      cases ps with
      | nil => cases h
      | cons p ps =>
        cases ps with
        | cons _ _ => cases h
        | nil =>
          cases ks <;> try (cases h; done)
          have h : (glB sc f "range" && chkE N calm sc x p) = true := h
          rw [Bool.and_eq_true] at h
          obtain ⟨e1, hg, hd, _, hnn⟩ := G.gl h.1
          subst e1
          have A := sE x G tk h.2
          exact ⟨_, pi_range1 hg (G.gam.bi _ (by decide)) (pa_cons A.1 pa_nil (nice_star A.2.2 _ _)) (nice_star A.2.2 _ _), wi_r1 rfl, fun _ => rfl⟩
    | range2 => cases h
  | [x, y], kk, tg, calm, sc, X, W, e, G, tk, h => by
    cases kk with
    | seq => cases e <;> cases h
    | range1 => cases e <;> cases h
    | range2 =>
      cases e <;> try (cases h; done)
      rename_i fn ps ks pos
      cases fn <;> try (cases h; done)
      rename_i f pf
      cases ps with
      | nil => cases h
      | cons p ps =>
        cases ps with
        | nil => cases h
        | cons q ps =>
          cases ps with
          | cons _ _ => cases h
          | nil =>
            cases ks <;> try (cases h; done)
            have h : (glB sc f "range" && (chkE N calm sc x p && chkE N calm sc y q)) = true := h
            simp only [Bool.and_eq_true] at h
            obtain ⟨e1, hg, hd, _, hnn⟩ := G.gl h.1
            subst e1
            have A := sE x G tk h.2.1
            have B := sE y G tk h.2.2
            exact ⟨_, pi_range2 hg (G.gam.bi _ (by decide)) (pa_cons A.1 (pa_cons B.1 pa_nil (nice_star B.2.2 _ _)) (nice_star A.2.2 _ _)) ((nice_star A.2.2 _ _).trans (congrArg _ (nice_star B.2.2 _ _))) (nice_star B.2.2 _ _), wi_r2 rfl, fun _ => rfl⟩
  | _ :: _ :: _ :: _, kk, tg, calm, sc, X, W, e, G, tk, h => by cases h
end
end
end DL

set_option autoImplicit false
set_option linter.all false
set_option maxHeartbeats 1000000
namespace DL
open PySem PySem.Spec PyProof.Rows L2 TL
/-- whatever a statement's ends want reaches the ends -/
structure GotD (K : PySem.W.Frag) (Z H : Hp) (S : DS) (E : DEnds) (D : Ends) (W : WX) : Prop where
  nx : ∀ σV' H' σ' S', Same (fz Z H S) (fz Z H' S') → Sim K Z H' S' → Sts K (fz Z H' S') σ' σV' → E.nx σ' S' → D.nx σV' H'
  rt : Got K Z H S E.rt D.rt
  bk : ∀ σV' H' σ' S', Same (fz Z H S) (fz Z H' S') → Sim K Z H' S' → Sts K (fz Z H' S') σ' σV' → E.bk σ' S' → D.bk σV' H'
  ct : ∀ σV' H' σ' S', Same (fz Z H S) (fz Z H' S') → Sim K Z H' S' → Sts K (fz Z H' S') σ' σV' → E.ct σ' S' → D.ct σV' H'
  ex : ∀ x σV' H' σ' S' cls d, Same (fz Z H S) (fz Z H' S') → Sim K Z H' S' → Sts K (fz Z H' S') σ' σV' → ExR K (fz Z H' S') x cls d → E.ex x σ' S' → W cls d σV' H'
theorem GotD.to {K : PySem.W.Frag} {Z H H1 : Hp} {S S1 : DS} {E : DEnds} {D : Ends} {W : WX} (g : GotD K Z H S E D W) (e : Same (fz Z H S) (fz Z H1 S1)) : GotD K Z H1 S1 E D W where
  nx := fun σV' H' σ' S' a => g.nx σV' H' σ' S' (e.trans a)
  rt := g.rt.to e
  bk := fun σV' H' σ' S' a => g.bk σV' H' σ' S' (e.trans a)
  ct := fun σV' H' σ' S' a => g.ct σV' H' σ' S' (e.trans a)
  ex := fun x σV' H' σ' S' cls d a => g.ex x σV' H' σ' S' cls d (e.trans a)
def tZ (K : PySem.W.Frag) (W : WX) (r : RS) : TS := fun D σV H => ∃ Z σ S E, Sim K Z H S ∧ Sts K (fz Z H S) σ σV ∧ r E σ S ∧ GotD K Z H S E D W
theorem _root_.L2.PS.imp {X : Cx} {e : Stmt} {t t' : TS} (h : PS X e t) (hi : ∀ D σ H, t' D σ H → t D σ H) : PS X e t' := ⟨fun pins s σ H D I q => h.run pins s σ H D I (hi D σ H q)⟩
theorem _root_.L2.PSs.imp {X : Cx} {e : List Stmt} {t t' : TS} (h : PSs X e t) (hi : ∀ D σ H, t' D σ H → t D σ H) : PSs X e t' := ⟨fun pins s σ H D I q => h.run pins s σ H D I (hi D σ H q)⟩
/-- the refusal's end of an expression inside a statement -/
theorem GotD.exE {K : PySem.W.Frag} {Z H : Hp} {S : DS} {E : DEnds} {D : Ends} {W : WX} (g : GotD K Z H S E D W) {σ : St0} {σV : StV} (st : Sts K (fz Z H S) σ σV) : GotE K Z H S (fun x S1 => E.ex x σ S1) (fun cls d H' => W cls d σV H') :=
  fun x S' H' cls d e s r q => g.ex x σV H' σ S' cls d e s (st.mono e) r q
section
variable {K : PySem.W.Frag} {W : WX} {D : Ends} {σV : StV} {H : Hp}
theorem tS_set {e : RV} {i : Nat} (h : tZ K W (sSet e i) D σV H) : tAsg (tE K W e) (gName i) D σV H := by
  obtain ⟨Z, σ, S, E, s, st, h, g⟩ := h
  exact ⟨Z, σ, S, _, _, s, st, h, fun v H1 d S1 e1 s1 r1 q => g.nx _ H1 _ S1 e1 s1 ((st.mono e1).set r1) q, g.exE st⟩
theorem tS_tup {e : RV} {is : List Nat} (h : tZ K W (sTup e is) D σV H) : tAsg (tE K W e) (gOf K (.tup is)) D σV H := by
  obtain ⟨Z, σ, S, E, s, st, h, g⟩ := h
  refine ⟨Z, σ, S, _, _, s, st, h, fun v H1 d S1 e1 s1 r1 ⟨ds, h1, h2, q⟩ => ?_, g.exE st⟩
  obtain ⟨a, vs, k1, k2, k3⟩ := asSq_ok s1 r1 h1
  exact ⟨a, vs, k1, k2, by rw [k3.length]; exact h2, g.nx _ H1 _ S1 e1 s1 ((st.mono e1).sets k3) q⟩
theorem tS_ex {e : RV} (h : tZ K W (sEx e) D σV H) : tDrop (tE K W e) D σV H := by
  obtain ⟨Z, σ, S, E, s, st, h, g⟩ := h
  exact ⟨Z, σ, S, _, _, s, st, h, fun v H1 d S1 e1 s1 r1 q => g.nx _ H1 _ S1 e1 s1 (st.mono e1) q, g.exE st⟩
theorem tS_ret {e : RV} (h : tZ K W (sRet e) D σV H) : tRet (tE K W e) D σV H := by
  obtain ⟨Z, σ, S, E, s, st, h, g⟩ := h
  exact ⟨Z, σ, S, _, _, s, st, h, g.rt, g.exE st⟩
theorem tS_retN (h : tZ K W sRetN D σV H) : tRetN D σV H := by
  obtain ⟨Z, σ, S, E, s, st, h, g⟩ := h
  exact g.rt.here s (by simp only [RepV]) h
theorem tS_nx (h : tZ K W sNx D σV H) : tNext D σV H := by
  obtain ⟨Z, σ, S, E, s, st, h, g⟩ := h
  exact g.nx _ _ _ _ (Same.refl _) s st h
theorem tS_ct (h : tZ K W sCt D σV H) : tCont D σV H := by
  obtain ⟨Z, σ, S, E, s, st, h, g⟩ := h
  exact g.ct _ _ _ _ (Same.refl _) s st h
theorem tS_ite {c : RT} {a b : RS} (h : tZ K W (sIte c a b) D σV H) : tIfS (tT K W c) (tZ K W a) (tZ K W b) D σV H := by
  obtain ⟨Z, σ, S, E, s, st, h, g⟩ := h
  refine ⟨Z, σ, S, _, _, s, st, h, fun t H1 S1 e1 s1 q => ?_, g.exE st⟩
  cases t with
  | true => exact ⟨Z, σ, S1, E, s1, st.mono e1, q, g.to e1⟩
  | false => exact ⟨Z, σ, S1, E, s1, st.mono e1, q, g.to e1⟩
theorem tS_seq {a b : RS} (h : tZ K W (sSeq a b) D σV H) : tSeq (tZ K W a) (tZ K W b) D σV H := by
  obtain ⟨Z, σ, S, E, s, st, h, g⟩ := h
  exact ⟨Z, σ, S, _, s, st, h, fun σV' H' σ' S' e1 s1 st1 q => ⟨Z, σ', S', E, s1, st1, q, g.to e1⟩, g.rt, g.bk, g.ct, g.ex⟩
theorem tS_rais {C : String} {e : RV} (h : tZ K W (sRais1 C e) D σV H) : tE K W e σV H (fun _ H1 => C ∈ exNames ∧ C ≠ "Fault" ∧ W (.ref (He.ga K (Str.ofString C))) none σV H1) := by
  obtain ⟨Z, σ, S, E, s, st, h, g⟩ := h
  exact ⟨Z, σ, S, _, _, s, st, h, fun v H1 d S1 e1 s1 r1 ⟨_, q1, q2, q3⟩ => ⟨q1, q2, g.ex ⟨C, []⟩ σV H1 σ S1 _ _ e1 s1 (st.mono e1) ⟨rfl, q1, .inl ⟨rfl, rfl⟩⟩ q3⟩, g.exE st⟩
/-- while: the invariant on both sides -/
theorem tS_whl {c : RT} {b : RS} (h : tZ K W (sWhl c b) D σV H) : tWhile (tT K W c) (tZ K W b) D σV H := by
  obtain ⟨Z, σ, S, E, s, st, ⟨V, ⟨m0, v0⟩, h⟩, g⟩ := h
  refine ⟨fun m σV' H' => ∃ σ' S', Same (fz Z H S) (fz Z H' S') ∧ Sim K Z H' S' ∧ Sts K (fz Z H' S') σ' σV' ∧ V m σ' S', ⟨m0, σ, S, Same.refl _, s, st, v0⟩, fun m σV1 H1 ⟨σ1, S1, e1, s1, st1, v1⟩ => ?_⟩
  refine ⟨Z, σ1, S1, _, _, s1, st1, h m σ1 S1 v1, fun t H2 S2 e2 s2 q => ?_, (g.to e1).exE st1⟩
  cases t with
  | false => exact (g.to e1).nx _ _ _ _ e2 s2 (st1.mono e2) q
  | true =>
    refine ⟨fun σV' H' => ∃ m', m' < m ∧ ∃ σ' S', Same (fz Z H S) (fz Z H' S') ∧ Sim K Z H' S' ∧ Sts K (fz Z H' S') σ' σV' ∧ V m' σ' S', fun _ _ z => z, Z, σ1, S2, _, s2, st1.mono e2, q, ?_⟩
    have g2 := g.to (e1.trans e2)
    exact ⟨fun σV' H' σ' S' e3 s3 st3 ⟨m', hm, v⟩ => ⟨m', hm, σ', S', (e1.trans e2).trans e3, s3, st3, v⟩, g2.rt, g2.nx, fun σV' H' σ' S' e3 s3 st3 ⟨m', hm, v⟩ => ⟨m', hm, σ', S', (e1.trans e2).trans e3, s3, st3, v⟩, g2.ex⟩
/-- for -/
theorem tS_for {X : Cx} {Γ : Gam} {tg : XTg} {k : ItK} {es : List (RV × RT)} {b : RS} {wi : TI} (hw : WI X k es Γ W wi) (h : tZ X.K W (sFor tg k (rdL Γ es) b) D σV H) : tFor wi (gOf X.K tg) (tZ X.K W b) D σV H := by
  obtain ⟨Z, σ, S, E, s, st, h, g⟩ := h
  refine hw σV H Z σ S _ _ _ s st h (g.exE st) ?_
  intro J H1 S1 ds items vs e1 s1 rs hi wj hf
  refine ⟨fun i m σV' H' => m = items.length - i ∧ i ≤ items.length ∧ ∃ σ' S', Same (fz Z H S) (fz Z H' S') ∧ Sim X.K Z H' S' ∧ Sts X.K (fz Z H' S') σ' σV' ∧ RepL X.K (fz Z H' S') ds vs ∧
    forD (fun S' => itemsOf k ds S' = some items) (fun d nxt σ1 S2 => bindT S2 tg d σ1 fun σ2 => b (E.lp nxt) σ2 S2) E.nx (items.drop i) σ' S', ⟨_, rfl, Nat.zero_le _, σ, S1, e1, s1, st.mono e1, rs, hf⟩, ?_⟩
  rintro i m σV1 H2 ⟨rfl, hle, σ1, S2, e2, s2, st2, rs2, hf2⟩
  by_cases hlt : i < items.length
  · rw [List.drop_eq_getElem_cons hlt] at hf2
    obtain ⟨stay, hb⟩ := hf2
    obtain ⟨go, yld⟩ := wj.go _ H2 S2 i _ s2 rs2 stay (List.getElem?_eq_getElem hlt)
    refine .inr ⟨go, fun σV' H' => ∃ m', m' < items.length - i ∧ m' = items.length - (i + 1) ∧ i + 1 ≤ items.length ∧ ∃ σ' S', Same (fz Z H S) (fz Z H' S') ∧ Sim X.K Z H' S' ∧ Sts X.K (fz Z H' S') σ' σV' ∧ RepL X.K (fz Z H' S') ds vs ∧
      forD (fun S' => itemsOf k ds S' = some items) (fun d nxt σ1 S2 => bindT S2 tg d σ1 fun σ2 => b (E.lp nxt) σ2 S2) E.nx (items.drop (i + 1)) σ' S', fun _ _ z => z, fun x H' hy => ?_⟩
    obtain ⟨e, rx⟩ := yld x H' hy
    subst e
    refine l_tg s2 st2 rx hb fun σ' σV' st' q _ => ⟨Z, σ', S2, _, s2, st', q, ?_⟩
    have g2 := g.to e2
    refine ⟨fun σV' H' σ' S' e3 s3 st3 q => ⟨_, by omega, rfl, hlt, σ', S', e2.trans e3, s3, st3, RepL.mono e3 _ _ rs2, q⟩, g2.rt, g2.nx, fun σV' H' σ' S' e3 s3 st3 q => ⟨_, by omega, rfl, hlt, σ', S', e2.trans e3, s3, st3, RepL.mono e3 _ _ rs2, q⟩, g2.ex⟩
  · have e : i = items.length := by omega
    subst e
    rw [List.drop_length] at hf2
    obtain ⟨stay, q⟩ := hf2
    exact .inl ⟨wj.stop _ H2 S2 _ s2 rs2 stay (List.getElem?_eq_none (Nat.le_refl _)), (g.to e2).nx _ _ _ _ (Same.refl _) s2 st2 q⟩
theorem RepF.length {K : PySem.W.Frag} {F : Hp} : ∀ {fs : List (String × DL.D)} {vs : List (Str × V)}, RepF K F fs vs → vs.length = fs.length
  | [], vs, h => by simp only [RepF] at h; rw [h]; rfl
  | (q, d) :: fs, vs, h => by
    simp only [RepF] at h
    obtain ⟨v, r, h1, h2, h3⟩ := h
    rw [h1, List.length_cons, List.length_cons, RepF.length h3]
theorem RepF.put {K : PySem.W.Frag} {F : Hp} {f : String} {d : DL.D} {v : V} (rv : RepV K F d v) : ∀ {fs : List (String × DL.D)} {vs : List (Str × V)}, RepF K F fs vs → RepF K F (putFD f d fs) (putF (Str.ofString f) v vs)
  | [], vs, h => by
    simp only [RepF] at h
    subst h
    simp only [putFD, putF, RepF]
    exact ⟨v, [], rfl, rv, rfl⟩
  | (q, d') :: fs, vs, h => by
    simp only [RepF] at h
    obtain ⟨v', r, h1, h2, h3⟩ := h
    subst h1
    unfold putFD putF
    by_cases e : q = f
    · subst e
      rw [if_pos rfl, if_pos rfl]
      simp only [RepF]
      exact ⟨v, r, rfl, rv, h3⟩
    · rw [if_neg e, if_neg fun z => e (ofString_inj z)]
      simp only [RepF]
      exact ⟨v', _, rfl, h2, RepF.put rv h3⟩
theorem tS_attr {P : Program} {w : World} {mg : Str → Option Value} {base : Heap} {k : Nat} {Γ : Gam} (G : GamOk P w K mg base Γ k) {e o : RV} {f : String} (h : tZ K W (sAttr Γ e o f) D σV H) : sFld K (tE K W o) (tE K W e) (Str.ofString f) D σV H := by
  obtain ⟨Z, σ, S, E, s, st, h, g⟩ := h
  refine ⟨Z, σ, S, _, _, s, st, h, fun v H1 d S1 e1 s1 r1 q => ?_, g.exE st⟩
  refine ⟨Z, σ, S1, _, _, s1, st.mono e1, q, fun v2 H2 d2 S2 e2 s2 r2 ⟨a, c, fs, h1, h2, h3, h4, qq⟩ => ?_, (g.to e1).exE (st.mono e1)⟩
  subst h1
  simp only [RepV] at r2
  subst r2
  obtain ⟨dx, vs, k1, k2⟩ := s2.cells _ _ h2
  obtain ⟨hC, hno⟩ := G.fl c f h3
  have rv := RepV.mono e2 _ _ r1
  obtain ⟨s3, e3⟩ := s2.write h2 (.ins (He.ga K (Str.ofString c)) dx (putF (Str.ofString f) v vs)) (.ins c (putFD f d fs)) ⟨dx, _, L2.upd_same, k2.put rv⟩
  have e123 := (e1.trans e2).trans e3
  exact ⟨a, _, dx, vs, rfl, k1, hC, hno, by rw [k2.length]; exact h4, g.nx _ _ _ _ e123 s3 (st.mono e123) qq⟩
theorem RepL.set {K : PySem.W.Frag} {F : Hp} {d : DL.D} {v : V} (rv : RepV K F d v) : ∀ {ds : List DL.D} {vs : List V} (i : Nat), RepL K F ds vs → RepL K F (ds.set i d) (vs.set i v)
  | [], vs, i, h => by simp only [RepL] at h; subst h; simp [RepL]
  | x :: xs, vs, 0, h => by
    simp only [RepL] at h
    obtain ⟨u, r, h1, h2, h3⟩ := h
    subst h1
    simp only [List.set_cons_zero]
    exact RepL.cons rv h3
  | x :: xs, vs, i + 1, h => by
    simp only [RepL] at h
    obtain ⟨u, r, h1, h2, h3⟩ := h
    subst h1
    simp only [List.set_cons_succ]
    exact RepL.cons h2 (RepL.set rv i h3)
theorem tS_sub {e o i : RV} (h : tZ K W (sSub e o i) D σV H) : tAsg (tE K W e) (gSub (tE K W o) (tE K W i) rSetL) D σV H := by
  obtain ⟨Z, σ, S, E, s, st, h, g⟩ := h
  refine ⟨Z, σ, S, _, _, s, st, h, fun v H1 d S1 e1 s1 r1 q => ?_, g.exE st⟩
  refine ⟨Z, σ, S1, _, _, s1, st.mono e1, q, fun v2 H2 d2 S2 e2 s2 r2 q => ?_, (g.to e1).exE (st.mono e1)⟩
  refine ⟨Z, σ, S2, _, _, s2, st.mono (e1.trans e2), q, fun v3 H3 d3 S3 e3 s3 r3 ⟨a, ds, k, h1, h2, h3, h4, h5, qq⟩ => ?_, (g.to (e1.trans e2)).exE (st.mono (e1.trans e2))⟩
  subst h1 h2
  simp only [RepV] at r2 r3
  subst r2 r3
  obtain ⟨vs, k1, k2⟩ := s3.cells _ _ h3
  have rv := RepV.mono (e2.trans e3) _ _ r1
  obtain ⟨s4, e4⟩ := s3.write h3 (.lst (vs.set k.toNat v)) (.lst (ds.set k.toNat d)) ⟨_, L2.upd_same, RepL.set rv _ k2⟩
  have e1234 := ((e1.trans e2).trans e3).trans e4
  refine ⟨a, vs, k, k.toNat, rfl, rfl, k1, ?_, g.nx _ _ _ _ e1234 s4 (st.mono e1234) qq⟩
  unfold ixN
  rw [if_pos h4, if_pos (by rw [k2.length]; exact h5)]
theorem tS_dsub {e o i : RV} (h : tZ K W (sDsub e o i) D σV H) : tAsg (tE K W e) (gSub (tE K W o) (tE K W i) rSetD) D σV H := by
  obtain ⟨Z, σ, S, E, s, st, h, g⟩ := h
  refine ⟨Z, σ, S, _, _, s, st, h, fun v H1 d S1 e1 s1 r1 q => ?_, g.exE st⟩
  refine ⟨Z, σ, S1, _, _, s1, st.mono e1, q, fun v2 H2 d2 S2 e2 s2 r2 q => ?_, (g.to e1).exE (st.mono e1)⟩
  refine ⟨Z, σ, S2, _, _, s2, st.mono (e1.trans e2), q, fun v3 H3 d3 S3 e3 s3 r3 ⟨a, kvs, t, h1, h2, h3, h4, qq⟩ => ?_, (g.to (e1.trans e2)).exE (st.mono (e1.trans e2))⟩
  subst h1 h2
  simp only [RepV] at r2 r3
  obtain ⟨r3, ok⟩ := r3
  subst r2 r3
  obtain ⟨vs, k1, k2⟩ := s3.cells _ _ h3
  have rv := RepV.mono (e2.trans e3) _ _ r1
  obtain ⟨s4, e4⟩ := s3.write h3 (.dK (putK vs (.inr (tS t)) v)) (.dct (putD kvs t d)) ⟨_, L2.upd_same, put_rep rv ok k2⟩
  have e1234 := ((e1.trans e2).trans e3).trans e4
  show ∃ b H', _ ∧ _ ∧ _
  exact ⟨a, _, rfl, DPut.k (k := .inr (tS t)) k1 (by rw [k2.length]; exact h4), g.nx _ _ _ _ e1234 s4 (st.mono e1234) qq⟩
/-- a live list is frozen -/
theorem tS_frz {i : Nat} {b : RS} (h : tZ K W (sSeq (sFrz i) b) D σV H) : tZ K W b D σV H := by
  obtain ⟨Z, σ, S, E, s, st, ⟨a, ds, h1, h2, q⟩, g⟩ := h
  obtain ⟨vs, k1, k2⟩ := s.cells _ _ h2
  obtain ⟨v, j1, j2⟩ := st.2 i _ h1
  simp only [RepV] at j2
  subst j2
  have hZ : Z a = none := by
    cases e : Z a with
    | none => rfl
    | some o => have := s.zS a o e; rw [h2] at this; cases this
  have e1 : Same (fz Z H S) (fz Z H (S.del a)) := fun b u hb => by
    obtain ⟨x1, x2, x3⟩ := fz_some hb
    have hne : b ≠ a := fun z => by rw [z, h2] at x1; cases x1
    exact fz_of (by rw [DS.del_ne hne]; exact x1) x2 x3
  have s1 : Sim K Z H (S.del a) := ⟨s.zH, fun b u hb => by
      by_cases e : b = a
      · rw [e, DS.del_same]
      · rw [DS.del_ne e]; exact s.zS b u hb, fun b c hb => by
      have hne : b ≠ a := fun z => by rw [z, DS.del_same] at hb; cases hb
      rw [DS.del_ne hne] at hb
      exact (s.cells b c hb).mono e1 rfl⟩
  have hF : fz Z H (S.del a) a = some (.lst vs) := fz_of DS.del_same hZ k1
  refine ⟨Z, _, _, E, s1, ?_, q, g.to e1⟩
  have st1 := (st.mono e1).set (i := i) (d := .lst ds) (v := .ref a) (by simp only [RepV]; exact ⟨a, vs, rfl, hF, RepL.mono e1 _ _ k2⟩)
  have e2 : σV.set i (some (.ref a)) = σV := by
    apply List.ext_getElem?
    intro j
    by_cases hij : i = j
    · subst hij
      have hl : i < σV.length := (List.getElem?_eq_some_iff.mp j1).1
      rw [List.getElem?_set_self hl, j1]
    · rw [List.getElem?_set_ne hij]
  rwa [e2] at st1
end
end DL

set_option linter.all false
set_option autoImplicit false
set_option maxHeartbeats 1000000
namespace DL
open PySem PySem.Spec PyProof.Rows L2 TL
section
variable {X : Cx}
theorem excHO_ok {P : Program} {w : World} {G : Hp} {hp : Heap} {a : Addr} {c : Value} {d : Option Addr} {ob : Obj} {fs : Array Value} (e1 : hp.get? a = some ob) (e2 : Zc c d ob) (e3 : ob.data = .fields fs) :
    ObjOk P w G hp a (excHO c d a) := ⟨⟨ob, fs, e1, e2, e3⟩, ⟨ob, e1⟩, fun _ _ ⟨o', v', q1, q2⟩ kk => ⟨o', v', kk o' q1, q2⟩⟩
/-- the refusal that is held is noted among the things -/
theorem hold_exc {pn : List (Addr × Obj)} {sv : StV} {G : Hp} {s0 s1 : Shared} {a : Addr} {c : Value} {d : Option Addr} {ob : Obj} {fs : Array Value} (I0 : Inv X pn sv G s0) (I : Inv X pn sv G s1) (n0 : s0.heap.get? a = none) (nG : G a = none)
    (nL : a ≠ X.env.locals) (nF : a ∉ X.fs) (e1 : s1.heap.get? a = some ob) (e2 : Zc c d ob) (e3 : ob.data = .fields fs) : Inv X pn sv (upd G a (excHO c d a)) s1 where
  ok := I.ok
  os := I.os
  bare := I.bare
  base := {
    keep := I.base.keep
    slot := I.base.slot
    free := fun b o e n hx => by
      have hne : b ≠ a := fun z => by
        obtain ⟨o', e'⟩ := I0.base.there b o e hx
        rw [z, n0] at e'; cases e'
      rw [L2.upd_ne hne]
      exact I.base.free b o e n hx
    there := I.base.there
    tups := fun b xs q => by
      have := I.base.tups b xs q
      rw [L2.upd_ne (ne_of_none this nG)]; exact this
    frzs := fun b o xs q => by
      have := I.base.frzs b o xs q
      rw [L2.upd_ne (ne_of_none this nG)]; exact this
    tbls := fun b ps q => by
      obtain ⟨m, hm⟩ := I.base.tbls b ps q
      exact ⟨m, by rw [L2.upd_ne (ne_of_none hm nG)]; exact hm⟩ }
  loc := I.loc
  cell := I.cell
  free := by rw [L2.upd_ne (Ne.symm nL)]; exact I.free
  freeC := fun x cc e => by
    have hne : cc ≠ a := fun z => by
      obtain ⟨v, o, e', _⟩ := I0.cell x cc e
      rw [z, n0] at e'; cases e'
    rw [L2.upd_ne hne]; exact I.freeC x cc e
  pin := fun p hp => by
    obtain ⟨k1, k2, k3, k4, k5⟩ := I.pin p hp
    have hne : p.1 ≠ a := fun z => by
      have := (I0.pin p hp).1
      rw [z, n0] at this; cases this
    exact ⟨k1, by rw [L2.upd_ne hne]; exact k2, k3, k4, k5⟩
  hok := fun b ho e => by
    by_cases hb : b = a
    · subst hb
      rw [L2.upd_same] at e; cases e
      exact excHO_ok e1 e2 e3
    · rw [L2.upd_ne hb] at e
      exact (I.hok b ho e).stay (fun _ _ _ q => q) (fun x q => by rw [L2.upd_ne (ne_of_none q nG)]; exact q) fun x xs q => by rw [L2.upd_ne (ne_of_none q nG)]; exact q
  len := I.len
theorem in_hot {a : Addr} {pn : List (Addr × Obj)} {sv : StV} {G : Hp} {s1 : Shared} (I : Inv X pn sv G s1) : Inv (X.suite a (X.pn ++ pn)) [] sv G s1 where
  ok := I.ok.suite _ _
  os := I.os
  bare := I.bare
  base := I.base
  loc := I.loc
  cell := I.cell
  free := I.free
  freeC := I.freeC
  pin := fun p hp => I.pin p (by rw [List.append_nil] at hp; exact hp)
  hok := I.hok
  len := I.len
theorem of_hot {a : Addr} {pn pn' : List (Addr × Obj)} {sv : StV} {G : Hp} {s1 : Shared} (I : Inv (X.suite a (X.pn ++ pn)) pn' sv G s1) (ok : X.Ok) : Inv X pn sv G s1 where
  ok := ok
  os := I.os
  bare := I.bare
  base := I.base
  loc := I.loc
  cell := I.cell
  free := I.free
  freeC := I.freeC
  pin := fun p hp => I.pin p (List.mem_append_left _ hp)
  hok := I.hok
  len := I.len
/-- what a named clause wishes -/
def wHeld (K : PySem.W.Frag) (c : Value) (i : Nat) (ts : TS) (Wo : WX) (D : Ends) : WX := fun cl d sv G =>
  ∃ b, PySem.W.exmOne K cl c = some b ∧ (b = true → ∀ a, G a = none → ts ⟨fun s' G' => D.nx (s'.set i none) G', D.rt, fun s' G' => D.bk (s'.set i none) G', fun s' G' => D.ct (s'.set i none) G'⟩ (sv.set i (some (.ref a))) (upd G a (excHO cl d a))) ∧
    (b = false → Wo cl d sv G)
variable {x n : Str} {c : Value} {i : Nat} {body suite : List Stmt} {b0 : Stmt} {np p1 p0 : Pos} {tb : WX → TS} {ts : TS} {Wo : WX}
theorem ps_tryH (h1 : X.stack = X.env :: X.outer) (h2 : X.env.frame = some X.env.locals) (nd : X.N.Nodup) (hi : X.N[i]? = some n) (hl : X.env.kindOf n = some .local) (hc : Names X x c) (tk : Takes X Wo)
    (hb : ∀ (V : WX) (pl : List (Addr × Obj)) (xe : Value → Shared → Prop), Takes (X.tr pl xe) V → PassesOwn (model X.prog X.w) X.A X.env xe → PSs (X.tr pl xe) body (tb V)) (hsu : ∀ (a : Addr) (pl : List (Addr × Obj)), PSs (X.suite a pl) (b0 :: suite) ts) :
    PS X (.Try body [.ExceptHandler (some (.Name x np)) (some n) (b0 :: suite) p1] [] [] p0) (fun D sv G => tb (wHeld X.K c i ts Wo D) D sv G) := by
  constructor
  intro pn s0 sv G D I hw
  have ok := I.ok
  have frm : X.A.frames = some (X.env :: X.outer) := ok.frames.trans (by rw [h1])
  apply wpAny_Try_except
  let wish : Value → Shared → Prop := fun e t1 => wpAny (model X.prog X.w) X.A (noteFrame e X.env) (fun _ t2 => wpAny (model X.prog X.w) X.A (setFlight e none)
    (fun _ t3 => wpAny (model X.prog X.w) X.A (handleBy e X.env [.ExceptHandler (some (.Name x np)) (some n) (b0 :: suite) p1]) (SP X pn D) X.xe t3) X.xe t2) X.xe t1
  have caught : Takes (X.tr (X.pn ++ pn) wish) (wHeld X.K c i ts Wo D) := by
    rintro u t ⟨a, B, sI, pl, sv', G', cl, d, rfl, J0, nb, up, sky, nG, os, ag, b, hb1, yes, no⟩
    have J : Inv X pn sv' G' sI := J0.ofTry ok
    have sky' : Sky B (X.env :: X.outer) a (Zc cl d) X.env.locals t.heap := h1 ▸ sky
    refine Sky.land Zc.steady frm h2 sky' (fun g3 fl3 up3 => ?_)
    have J3 : Inv X pn sv' G' { t with heap := g3 } := J.landed nb fl3.1 (up.trans up3) os ag
    obtain ⟨ob3, fs3, at3, z3, da3⟩ := fl3.there
    have out : a ∉ frs (X.env :: X.outer) := fun hm => by
      obtain ⟨_, o', e', hnf⟩ := fl3.2.2.1.mem hm
      rw [at3] at e'; cases e'
      exact hnf _ da3
    have nL : a ≠ X.env.locals := fun z => out (List.mem_filterMap.mpr ⟨X.env, List.mem_cons_self, by rw [h2, z]⟩)
    have nF : a ∉ X.fs := fun inF => out (by
      obtain ⟨en, h3, h4⟩ := List.mem_filterMap.mp inF
      exact List.mem_filterMap.mpr ⟨en, List.mem_cons_of_mem _ h3, h4⟩)
    have nI : sI.heap.get? a = none := by
      cases e : sI.heap.get? a with
      | none => rfl
      | some o =>
        have := nb a o e (by rw [h1]; exact out)
        rw [fl3.2.1] at this; cases this
    have S3 := J3.suite at3 da3 nG nL nF
    refine wpAny_handleBy_cons (codeAny_handlers_test ?_) (fun z => nomatch z)
    have LT : PySem.W.Looks (model X.prog X.w) g3 (typeOf (.ref a)) cl := fun A' Q' E' t' kk q => wpAny_typeOf_ref (kk _ _ at3) (by rw [z3.1]; exact q)
    have LM := PySem.W.exm_one (M := model X.prog X.w) J3.kIn LT hb1
    have asked : ∀ {Q' E' : Value → Shared → Prop}, Q' c { t with heap := g3 } → wpAny (model X.prog X.w) (X.A.mark (some (.ref a))) (eval (.Name x np) X.env) Q' E' { t with heap := g3 } := by
      intro Q' E' q
      obtain ⟨hg, hd, ⟨hm⟩ | ⟨hm, hv, hn⟩⟩ := hc
      · exact ld_glob (X := X.suite a ((a, ob3) :: (X.pn ++ pn))) S3 hg (by assumption) q hd
      · exact ld_blt (X := X.suite a ((a, ob3) :: (X.pn ++ pn))) S3 hg hm hv q hn hd
    apply asked
    apply LM.here
    cases b with
    | true =>
      apply codeAny_handlers_suite_as
      refine HandSPX.lands_againZ fl3 (fun g4 fl4 up4 => ?_)
      have J4 : Inv X pn sv' G' { t with heap := g4 } := J.landed nb fl4.1 ((up.trans up3).trans up4) os ag
      obtain ⟨ob4, fs4, at4, z4, da4⟩ := fl4.there
      have S4 := in_hot (a := a) (hold_exc J J4 nI nG nL nF at4 z4 da4)
      refine store_ok (X := X.suite a (X.pn ++ pn)) (v := .ref a) S4 nd hi (.inl hl) rfl (fun t5 S5 => ?_) (.inr hl)
      refine wpAny_mono ((hsu a (X.pn ++ pn)).run [] t5 _ _ _ S5 (yes rfl a nG)) (fun f t6 hsp => ?_) (fun _ _ z => False.elim z)
      have fin : ∀ {sv6 : StV} {G6 : Hp} {Q' : Shared → Prop}, Inv (X.suite a (X.pn ++ pn)) [] sv6 G6 t6 → (∀ t7, Inv X pn (sv6.set i none) G6 t7 → Q' t7) →
          wpAny (model X.prog X.w) X.A (do bindName X.env n .none; unbindBehindTheSuite X.env n p1) (fun _ t7 => Q' t7) X.xe t6 := fun S6 hq => gone_ok (of_hot S6 ok) nd hi hl hq
      cases f with
      | next => exact let ⟨_, _, S6, q6⟩ := hsp; fin S6 fun _ J7 => ⟨_, _, J7, q6⟩
      | brk => exact let ⟨_, _, S6, q6⟩ := hsp; fin S6 fun _ J7 => ⟨_, _, J7, q6⟩
      | cont => exact let ⟨_, _, S6, q6⟩ := hsp; fin S6 fun _ J7 => ⟨_, _, J7, q6⟩
      | ret u => exact let ⟨_, _, _, S6, r6, q6⟩ := hsp; fin S6 fun _ J7 => ⟨_, _, _, J7, r6, q6⟩
    | false =>
      show wpAny _ X.A (handleBy (Value.ref a) X.env []) _ _ _
      apply wpAny_handleBy_nil
      obtain ⟨f1, f2, f3, ob, fs, T, oT, vT, at', z', da', i1, rest⟩ := id fl3
      unfold PySem.passOn
      apply wpAny_bind
      apply wpAny_field at' da' i1
      rw [if_neg (by simp : ¬ ((Value.ref T == Value.none) = true))]
      have go : wpAny (model X.prog X.w) X.A (setFlight (.ref a) X.env.frame) (fun _ t4 => wpAny (model X.prog X.w) X.A (throw (.ref a) : Sem Flow) (SP X pn D) X.xe t4) X.xe { t with heap := g3 } := by
        rw [h2]
        refine HandSPX.setFlight_upZ fl3 (fun g4 hh up4 => wpAny_throw (tk _ _ ?_))
        exact ⟨a, B, sI, pn, sv', G', cl, d, rfl, J, nb, (up.trans up3).trans up4, .inr (.inr (h1 ▸ hh)), nG, os, ag, no rfl⟩
      first
        | exact wpAny_bind (wpAny_pure (wpAny_bind go))
        | exact wpAny_bind go
  refine wpAny_mono ((hb _ (X.pn ++ pn) wish caught PassesOwn.looking).run [] s0 sv G D (I.toTry _) hw) (fun f t1 hsp => ?_) (fun _ _ z => z)
  cases f with
  | next => exact let ⟨_, _, J', q⟩ := hsp; wpAny_execs_nil ⟨_, _, J'.ofTry ok, q⟩
  | brk => exact let ⟨_, _, J', q⟩ := hsp; ⟨_, _, J'.ofTry ok, q⟩
  | cont => exact let ⟨_, _, J', q⟩ := hsp; ⟨_, _, J'.ofTry ok, q⟩
  | ret u => exact let ⟨_, _, _, J', r, q⟩ := hsp; ⟨_, _, _, J'.ofTry ok, r, q⟩
end
end DL

set_option linter.all false
set_option autoImplicit false
set_option maxHeartbeats 1000000
namespace DL
open PySem PySem.Spec PyProof.Rows L2 TL
/-- a def's own frame -/
structure Own (calm : Bool) (sc : Scope) (X : Cx) : Prop where
  fn : ∀ x, isLoc (sc.names.lookup x) = true → X.fn x = true ∨ sc.names.lookup x = some .local
  top : calm = true → X.stack = X.env :: X.outer ∧ X.env.frame = some X.env.locals ∧ PassesOwn (model X.prog X.w) X.A X.env X.xe
section
variable {Γ : Gam} {k : Nat} {N : List Str}
section
variable {calm : Bool} {sc : Scope} {X : Cx} {W : WX}
theorem noComp_swaps {p : Expr} (h : noComp p = true) (t : Option Expr) (l : Nat) (env : Env) : swapsWith p t l env = pure false := by
  cases p <;> first | rfl | cases h
theorem own_loc (G : Good Γ k N calm sc X) (O : Own calm sc X) {x : Str} (h : isLoc (sc.names.lookup x) = true) : Loc X.env.scope x ∧ (X.fn x = true ∨ X.env.scope.names.lookup x = some .local) := by
  have h2 := O.fn x h
  have e := G.sc
  subst e
  refine ⟨?_, h2⟩
  unfold isLoc at h
  split at h
  · rename_i e; exact .inl e
  · rename_i e; exact .inr e
  · cases h
/-- a comprehension's parts -/
theorem comp_parts (G : Good Γ k N calm sc X) (tk : Takes X W) {x : XE} {q : Expr} {gs : List Comprehension} {s : Scope} {pos : Pos} (h : chkE N calm sc x (.ListComp q gs s pos) = true) :
    ∃ t it ifs own wi g tt te, gs = [⟨t, it, ifs, 0⟩] ∧ X.calm = true ∧ PI X t it wi ∧ BlkOk X.N X.env.scope s own ∧
      (∀ (s' : Shared) (H : Hp) (C : Addr) (cl : List (Str × Addr)) (fp : List Addr), PG (X.blk s' H s (compEnvC s cl C X.env) fp) t g) ∧
      (∀ (s' : Shared) (H : Hp) (C : Addr) (cl : List (Str × Addr)) (fp : List Addr), PTs (X.blk s' H s (compEnvC s cl C X.env) fp) ifs tt) ∧
      (∀ (s' : Shared) (H : Hp) (C : Addr) (cl : List (Str × Addr)) (fp : List Addr), PE (X.blk s' H s (compEnvC s cl C X.env) fp) q te) ∧
      (∀ x, foldedSetIterable it X.env x = pure x) ∧ (∀ σV H Q, tE X.K W (rd Γ x).1 σV H Q → tLc wi g tt te (own.map (·.2)) σV H Q) := by
  cases x <;> try (cases h; done)
  rename_i live tg kk es elt cond
  cases gs with
  | nil => cases h
  | cons g gs =>
    obtain ⟨t, it, ifs, as⟩ := g
    cases as <;> try (cases h; done)
    rename_i z
    cases z <;> try (cases h; done)
    cases gs with
    | cons _ _ => cases h
    | nil =>
      have h : (calm && (chkI N calm sc kk es it && (blkC N sc s (ownOf N tg) && (tgB N s tg t && (chkE N calm (relS s sc) elt q && chkC N calm (relS s sc) cond ifs))))) = true := h
      simp only [Bool.and_eq_true] at h
      obtain ⟨h1, h2, h3, h4, h5, h6⟩ := h
      obtain ⟨wi, i1, i2, i3⟩ := sI es kk t G tk h2
      have hcc := (G.calm h1).1
      obtain ⟨a1, a2, a3⟩ := se_comp (live := live) G h1 i1 i2 h3 h4 i3 (fun s' H C cl fp => sE elt (G.blk s s' H C cl fp) takes0 h5) (fun s' H C cl fp => sC cond (G.blk s s' H C cl fp) takes0 h6)
      exact ⟨t, it, ifs, _, wi, _, _, _, rfl, hcc, i1, a3, blk_tg G hcc h4, a2, fun s' H C cl fp => (sE elt (G.blk s s' H C cl fp) takes0 h5).1, i3, a1⟩
theorem ps_name (G : Good Γ k N calm sc X) (tk : Takes X W) (O : Own calm sc X) {e : XE} {i : Nat} {x : Str} {p : Expr} {px pos : Pos} (h1 : N[i]? = some x) (h2 : isLoc (sc.names.lookup x) = true) (h3 : chkE N calm sc e p = true)
    (h4 : (noComp p || (decide (sc.names.lookup x = some .local) && (px.line == p.pos.line && lcFree x p)) || decide (sc.names.lookup x = some .cell)) = true) : PS X (.Assign [.Name x px] p pos) (tZ X.K W (sSet (rd Γ e).1 i)) := by
  obtain ⟨l1, l2⟩ := own_loc G O h2
  have hi : X.N[i]? = some x := by rw [G.n]; exact h1
  by_cases hn : noComp p = true
  · exact (ps_set G.nd hi l1 (sE e G tk h3).1 (noComp_swaps hn _ _ _) l2).imp fun _ _ _ q => tS_set q
  · simp only [Bool.or_eq_true] at h4
    have hcell : sc.names.lookup x = some .cell → PS X (.Assign [.Name x px] p pos) (tZ X.K W (sSet (rd Γ e).1 i)) := fun hk => by
      refine (ps_set G.nd hi l1 (sE e G tk h3).1 ?_ l2).imp fun _ _ _ q => tS_set q
      have hk' : X.env.kindOf x = some .cell := by
        show X.env.scope.names.lookup x = _
        rw [G.sc]; exact hk
      cases p <;> try rfl
      all_goals
        unfold swapsWith
        simp only [hk']
        rw [show ((some NameKind.cell == some NameKind.local) = false) from rfl]
        simp
    rcases h4 with (h4 | h4) | h4
    · exact absurd h4 hn
    · simp only [Bool.and_eq_true, decide_eq_true_eq] at h4
      obtain ⟨k1, k2, k3⟩ := h4
      cases p <;> try (cases k3; done)
      rename_i q gs s pp
      obtain ⟨t, it, ifs, own, wi, g, tt, te, rfl, c1, c2, c3, c4, c5, c6, c7, c8⟩ := comp_parts G tk h3
      have hk' : X.env.kindOf x = some .local := by
        show X.env.scope.names.lookup x = _
        rw [G.sc]; exact k1
      constructor
      intro pn s0 sv H D I hw
      have hb : X.env.blockKind = .function := by unfold Env.blockKind; rw [I.ok.kind]; rfl
      refine (ps_setLc (py := px) (spos := pos) c1 G.nd hi hk' ?_ c2 c3 c4 c5 c6 c7).run pn s0 sv H D I ?_
      · unfold swapsWith
        simp only [hb, hk']
        have k2 : (px.line == pp.line) = true := k2
        rw [show (Expr.ListComp q [⟨t, it, ifs, 0⟩] s pp).pos = pp from rfl, k2]
        have k3 : (!s.names.any fun (n, k) => n == x && (k == .local || k == .cell)) = true := k3
        rw [k3]
        rfl
      · obtain ⟨Z, σ, S, E, s, st, h, g1⟩ := hw
        exact c8 _ _ _ ⟨Z, σ, S, _, _, s, st, h, fun v H1 d S1 e1 s1 r1 q => g1.nx _ H1 _ S1 e1 s1 ((st.mono e1).set r1) q, g1.exE st⟩
    · exact hcell (of_decide_eq_true h4)
theorem excNames (G : Good Γ k N calm sc X) {x : Str} {C : String} (h : glB sc x C = true) (hC : exAll.contains C = true) : Names X x (.ref (He.ga X.K (Str.ofString C))) := by
  obtain ⟨e1, hg, hd, _⟩ := G.gl h
  subst e1
  exact ⟨hg, hd, .inl ((G.gam.ex "Fault" (by decide)).2 C (by simpa using hC)).1⟩
/-- the suite's wish from the data's -/
theorem l_try (G : Good Γ k N calm sc X) {C : String} (hC : exAll.contains C = true) {b su : RS} {i : Nat} {D : Ends} {σV : StV} {H : Hp} (h : tZ X.K W (sTry b C (some i) su) D σV H) :
    tZ X.K (wHeld X.K (.ref (He.ga X.K (Str.ofString C))) i (tZ X.K W0 su) W D) b D σV H := by
  obtain ⟨Z, σ, S, E, s, st, h, g⟩ := h
  refine ⟨Z, σ, S, _, s, st, h, g.nx, g.rt, g.bk, g.ct, ?_⟩
  intro x σV' H' σ' S' cls d e1 s1 st1 rx q
  obtain ⟨r1, r2, r3⟩ := rx
  subst r1
  have he := ((G.gam.ex x.cls r2).2 C (by simpa using hC)).2.2
  refine ⟨_, he, fun hb a ha => ?_, fun hb => ?_⟩
  · have q : if subEx x.cls C = true then (∀ a, S' a = none → su (E.gone i) (σ'.set i (some (.exc a x.cls x.fs))) S') else E.ex x σ' S' := q
    rw [if_pos hb] at q
    obtain ⟨s2, e2, hF⟩ := s1.newF ha (excHO (.ref (He.ga X.K (Str.ofString x.cls))) d a)
    have e12 := e1.trans e2
    refine ⟨Z, _, S', _, s2, (st1.mono e2).set ?_, q a (s1.fresh ha).1, ?_⟩
    · simp only [RepV]
      refine ⟨trivial, d, hF, ?_⟩
      rcases r3 with r3 | ⟨dd, vs, r3, r4, r5⟩
      · exact .inl r3
      · exact .inr ⟨dd, vs, r3, e2 _ _ r4, RepF.mono e2 _ _ r5⟩
    · have g2 := g.to e12
      exact ⟨fun _ _ _ _ e3 s3 st3 q => g2.nx _ _ _ _ e3 s3 (st3.unset i) q, g2.rt, fun _ _ _ _ e3 s3 st3 q => g2.bk _ _ _ _ e3 s3 (st3.unset i) q, fun _ _ _ _ e3 s3 st3 q => g2.ct _ _ _ _ e3 s3 (st3.unset i) q, fun _ _ _ _ _ _ _ _ _ _ _ z => z.elim⟩
  · have q : if subEx x.cls C = true then (∀ a, S' a = none → su (E.gone i) (σ'.set i (some (.exc a x.cls x.fs))) S') else E.ex x σ' S' := q
    rw [if_neg (by rw [hb]; exact Bool.false_ne_true)] at q
    exact g.ex x σV' H' σ' S' _ d e1 s1 st1 ⟨rfl, r2, r3⟩ q
theorem l_try0 (G : Good Γ k N calm sc X) {C : String} (hC : exAll.contains C = true) {b su : RS} {D : Ends} {σV : StV} {H : Hp} (h : tZ X.K W (sTry b C none su) D σV H) :
    tZ X.K (wOnly X.K (.ref (He.ga X.K (Str.ofString C))) (fun _ _ _ => tZ X.K W0 su) W D) b D σV H := by
  obtain ⟨Z, σ, S, E, s, st, h, g⟩ := h
  refine ⟨Z, σ, S, _, s, st, h, g.nx, g.rt, g.bk, g.ct, ?_⟩
  intro x σV' H' σ' S' cls d e1 s1 st1 rx q
  obtain ⟨r1, r2, r3⟩ := rx
  subst r1
  have he := ((G.gam.ex x.cls r2).2 C (by simpa using hC)).2.2
  have q : if subEx x.cls C = true then su E.noex σ' S' else E.ex x σ' S' := q
  refine ⟨_, he, fun hb a ha => ?_, fun hb => ?_⟩
  · rw [if_pos hb] at q
    have g2 := g.to e1
    exact ⟨Z, σ', S', _, s1, st1, q, g2.nx, g2.rt, g2.bk, g2.ct, fun _ _ _ _ _ _ _ _ _ _ _ z => z.elim⟩
  · rw [if_neg (by rw [hb]; exact Bool.false_ne_true)] at q
    exact g.ex x σV' H' σ' S' _ d e1 s1 st1 ⟨rfl, r2, r3⟩ q
end
mutual
theorem sS : ∀ (x : XS) {calm : Bool} {sc : Scope} {X : Cx} {W : WX} {st : Stmt}, Good Γ k N calm sc X → Takes X W → Own calm sc X → chkS N calm sc x st = true → PS X st (tZ X.K W (rdS Γ x))
  | .asg t e, calm, sc, X, W, st, G, tk, O, h => by
    cases t with
    | name i =>
      cases st <;> try (cases h; done)
      rename_i ts p pos
      cases ts with
      | nil => cases h
      | cons t ts =>
        cases t <;> try (cases h; done)
        rename_i x px
        cases ts with
        | cons _ _ => cases h
        | nil =>
          have h := Bool.and_eq_true_iff.mp h
          have h' := Bool.and_eq_true_iff.mp h.2
          have h'' := Bool.and_eq_true_iff.mp h'.2
          exact ps_name G tk O (of_decide_eq_true h.1) h'.1 h''.1 h''.2
    | tup is =>
      cases st <;> try (cases h; done)
      rename_i ts p pos
      cases ts with
      | nil => cases h
      | cons t ts =>
        cases ts with
        | cons _ _ => cases h
        | nil =>
          have h := Bool.and_eq_true_iff.mp h
          have h2 := Bool.and_eq_true_iff.mp h.2
          have h3 := Bool.and_eq_true_iff.mp h2.2
          have h4 := Bool.and_eq_true_iff.mp h3.2
          have hg : PG X t (gOf X.K (.tup is)) := pg_of (sc := sc) G.nd (G.calm h.1).1 (fun x hx => own_loc G O hx) (by rw [G.n]; exact h2.1)
          have ht : ∃ ps kk pp, t = .Tuple ps kk pp := by
            have := h2.1
            cases t <;> first | exact ⟨_, _, _, rfl⟩ | cases this
          obtain ⟨ps, kk, pp, rfl⟩ := ht
          have hw : swappedStores [.Tuple ps kk pp] p X.env = pure none := by
            have := h4.1
            cases p <;> first | rfl | cases this
          exact (ps_asg (sE e G tk h4.2).1 hg (by unfold swapsWithSole; exact noComp_swaps h3.1 _ _ _) hw rfl).imp fun _ _ _ q => tS_tup q
    | attr o f =>
      cases st <;> try (cases h; done)
      rename_i ts p pos
      cases ts with
      | nil => cases h
      | cons t ts =>
        cases t <;> try (cases h; done)
        rename_i q x px
        cases ts with
        | cons _ _ => cases h
        | nil =>
          have h : (decide (x = Str.ofString f) && (noComp p && (chkE N calm sc o q && chkE N calm sc e p))) = true := h
          simp only [Bool.and_eq_true, decide_eq_true_eq] at h
          obtain ⟨h1, h2, h3, h4⟩ := h
          subst h1
          exact (ps_fld (sE o G tk h3).1 (sE e G tk h4).1 (noComp_swaps h2 _ _ _)).imp fun _ _ _ q => tS_attr G.gam q
    | sub o i =>
      cases st <;> try (cases h; done)
      rename_i ts p pos
      cases ts with
      | nil => cases h
      | cons t ts =>
        cases t <;> try (cases h; done)
        rename_i q r px
        cases ts with
        | cons _ _ => cases h
        | nil =>
          have h : (noSlice r && (noComp p && (chkE N calm sc o q && (chkE N calm sc i r && chkE N calm sc e p)))) = true := h
          simp only [Bool.and_eq_true] at h
          obtain ⟨h1, h2, h3, h4, h5⟩ := h
          refine (ps_asg (sE e G tk h5).1 (pg_sub (sE o G tk h3).1 (sE i G tk h4).1 set_list ?_) (by unfold swapsWithSole; exact noComp_swaps h2 _ _ _) (by cases p <;> rfl) rfl).imp fun _ _ _ q => tS_sub q
          intro v
          cases r <;> first | rfl | cases h1
    | dsub o i =>
      cases st <;> try (cases h; done)
      rename_i ts p pos
      cases ts with
      | nil => cases h
      | cons t ts =>
        cases t <;> try (cases h; done)
        rename_i q r px
        cases ts with
        | cons _ _ => cases h
        | nil =>
          have h : (noSlice r && (noComp p && (chkE N calm sc o q && (chkE N calm sc i r && chkE N calm sc e p)))) = true := h
          simp only [Bool.and_eq_true] at h
          obtain ⟨h1, h2, h3, h4, h5⟩ := h
          refine (ps_asg (sE e G tk h5).1 (pg_sub (sE o G tk h3).1 (sE i G tk h4).1 (set_dict (by have := G.hu; omega)) ?_) (by unfold swapsWithSole; exact noComp_swaps h2 _ _ _) (by cases p <;> rfl) rfl).imp fun _ _ _ q => tS_dsub q
          intro v
          cases r <;> first | rfl | cases h1
  | .par is es, calm, sc, X, W, st, G, tk, O, h => by cases st <;> cases h
  | .ex e, calm, sc, X, W, st, G, tk, O, h => by
    cases st <;> try (cases h; done)
    rename_i p pos
    have h : (noComp p && chkE N calm sc e p) = true := h
    rw [Bool.and_eq_true] at h
    exact (ps_expr (sE e G tk h.2).1 (noComp_swaps h.1 _ _ _)).imp fun _ _ _ q => tS_ex q
  | .ret (some e), calm, sc, X, W, st, G, tk, O, h => by
    cases st <;> try (cases h; done)
    rename_i o pos
    cases o with
    | none => cases h
    | some p => exact (ps_ret (sE e G tk h).1).imp fun _ _ _ q => tS_ret q
  | .ret none, calm, sc, X, W, st, G, tk, O, h => by
    cases st <;> try (cases h; done)
    rename_i o pos
    cases o with
    | none => exact ps_retN.imp fun _ _ _ q => tS_retN q
    | some p => cases h
  | .ite c a b, calm, sc, X, W, st, G, tk, O, h => by
    cases st <;> try (cases h; done)
    rename_i p q r pos
    have h : (chkE N calm sc c p && (chkSs N calm sc a q && chkSs N calm sc b r)) = true := h
    simp only [Bool.and_eq_true] at h
    exact (ps_if (sE c G tk h.1).2.1 (sSs a G tk O h.2.1) (sSs b G tk O h.2.2)).imp fun _ _ _ q => tS_ite q
  | .whl c b, calm, sc, X, W, st, G, tk, O, h => by
    cases st <;> try (cases h; done)
    rename_i p q r pos
    cases r with
    | cons _ _ => cases h
    | nil =>
      have h : (calm && (chkE N calm sc c p && chkSs N calm sc b q)) = true := h
      simp only [Bool.and_eq_true] at h
      exact (ps_while (O.top h.1).2.2 (sE c G tk h.2.1).2.1 (sSs b G tk O h.2.2)).imp fun _ _ _ q => tS_whl q
  | .forr t kk es b, calm, sc, X, W, st, G, tk, O, h => by
    cases st <;> try (cases h; done)
    rename_i tg it q r pos
    cases r with
    | cons _ _ => cases h
    | nil =>
      have h : (calm && (tgB N sc t tg && (chkI N calm sc kk es it && chkSs N calm sc b q))) = true := h
      simp only [Bool.and_eq_true] at h
      obtain ⟨h1, h2, h3, h4⟩ := h
      obtain ⟨wi, i1, i2, i3⟩ := sI es kk tg G tk h3
      have hcc := (G.calm h1).1
      exact (ps_for (O.top h1).2.2 hcc i1 (pg_of (sc := sc) G.nd hcc (fun x hx => own_loc G O hx) (by rw [G.n]; exact h2)) (sSs b G tk O h4) i3).imp fun _ _ _ q => tS_for i2 q
  | .rais C es, calm, sc, X, W, st, G, tk, O, h => by
    cases st <;> try (cases h; done)
    rename_i o c pos
    cases o with
    | none => cases h
    | some e =>
      cases e <;> try (cases h; done)
      rename_i fn ps ks cp
      cases fn <;> try (cases h; done)
      rename_i x p
      cases ks <;> try (cases h; done)
      cases c <;> try (cases h; done)
      have h : (calm && (glB sc x C && (decide (C ∈ exNames ∧ C ≠ "Fault") && (!ps.isEmpty && chkEs N calm sc es ps)))) = true := h
      simp only [Bool.and_eq_true, decide_eq_true_eq] at h
      obtain ⟨h1, h2, hC, h3, h4⟩ := h
      cases es with
      | nil => exact ⟨fun _ _ _ _ _ _ ⟨_, _, _, _, _, _, z, _⟩ => False.elim z⟩
      | cons e1 es =>
        cases es with
        | cons _ _ => exact ⟨fun _ _ _ _ _ _ ⟨_, _, _, _, _, _, z, _⟩ => False.elim z⟩
        | nil =>
          cases ps with
          | nil => cases h4
          | cons q ps =>
            cases ps with
            | cons _ _ => cases (Bool.and_eq_true_iff.mp h4).2
            | nil =>
              obtain ⟨e2, hg, hd, _⟩ := G.gl h2
              subst e2
              have R := G.gam.rz C hC.1 hC.2
              obtain ⟨B, n, i, bm, F, hq⟩ := R.made
              have A := sE e1 G tk (Bool.and_eq_true_iff.mp h4).1
              have hm := ((G.gam.ex C hC.1).2 C (by simp [exAll, hC.1])).1
              refine (ps_raise (G.calm h1).1 tk (SkE.pmk_own1 F hq hm R.keep (raises_own R.sub R.ty) hg A.1 (nice_star A.2.2 _ _) hd)).imp fun D σ H q => ?_
              obtain ⟨Z, σ, S, QD, ED, s, st, h, g, ge⟩ := tS_rais q
              exact ⟨Z, σ, S, QD, ED, s, st, h, fun v H' d S' a b c e => (g v H' d S' a b c e).2.2, ge⟩
  | .tryx b C i su, calm, sc, X, W, st, G, tk, O, h => by
    cases st <;> try (cases h; done)
    rename_i q hds oe fb pos
    cases hds with
    | nil => cases h
    | cons hd hds =>
      cases hd
      rename_i ty n r p1
      cases ty with
      | none => cases h
      | some ty =>
        cases ty <;> try (cases h; done)
        rename_i x np
        cases hds with
        | cons _ _ => cases h
        | nil =>
          cases oe with
          | cons _ _ => cases h
          | nil =>
            cases fb with
            | cons _ _ => cases h
            | nil =>
              have h := Bool.and_eq_true_iff.mp h
              have h2 := Bool.and_eq_true_iff.mp h.2
              have h3 := Bool.and_eq_true_iff.mp h2.2
              have h4 := Bool.and_eq_true_iff.mp h3.2
              have h5 := Bool.and_eq_true_iff.mp h4.2
              have h6 := Bool.and_eq_true_iff.mp h5.2
              obtain ⟨t1, t2, t3⟩ := O.top h.1
              have nm := excNames G h2.1 h3.1
              have body : ∀ (V : WX) (pl : List (Addr × Obj)) (xe : Value → Shared → Prop), Takes (X.tr pl xe) V → PassesOwn (model X.prog X.w) X.A X.env xe → PSs (X.tr pl xe) q (tZ X.K V (rdSs Γ b)) := fun V pl xe tk' hp =>
                sSs b (X := X.tr pl xe) ⟨G.gam, G.nd, G.n, G.sc, G.hu, G.calm⟩ tk' ⟨O.fn, fun _ => ⟨t1, t2, hp⟩⟩ h4.1
              have suite : ∀ (a : Addr) (pl : List (Addr × Obj)), PSs (X.suite a pl) r (tZ X.K W0 (rdSs Γ su)) := fun a pl =>
                sSs su (X := X.suite a pl) ⟨G.gam, G.nd, G.n, G.sc, G.hu, fun z => absurd z Bool.false_ne_true⟩ takes0 ⟨O.fn, fun z => absurd z Bool.false_ne_true⟩ h5.1
              cases r with
              | nil => cases h6.1
              | cons b0 r =>
                cases i with
                | none =>
                  cases n with
                  | some _ => cases h6.2
                  | none => exact (ps_try_only (ts := fun _ _ _ => tZ X.K W0 (rdSs Γ su)) t1 t2 nm tk body (fun a oe cls d pn _ _ => suite a _)).imp fun _ _ _ q => l_try0 G h3.1 q
                | some i =>
                  cases n with
                  | none => cases h6.2
                  | some n =>
                    have h7 := Bool.and_eq_true_iff.mp h6.2
                    have hl : X.env.kindOf n = some .local := by
                      show X.env.scope.names.lookup n = _
                      rw [G.sc]; exact of_decide_eq_true h7.2
                    exact (ps_tryH t1 t2 G.nd (by rw [G.n]; exact of_decide_eq_true h7.1) hl nm tk body suite).imp fun _ _ _ q => l_try G h3.1 q
  | .cont, calm, sc, X, W, st, G, tk, O, h => by
    cases st <;> try (cases h; done)
    exact ps_continue.imp fun _ _ _ q => tS_ct q
  | .pass, calm, sc, X, W, st, G, tk, O, h => by
    cases st <;> try (cases h; done)
    exact ps_pass.imp fun _ _ _ q => tS_nx q
  | .frz i, calm, sc, X, W, st, G, tk, O, h => by cases st <;> cases h
theorem sSs : ∀ (xs : List XS) {calm : Bool} {sc : Scope} {X : Cx} {W : WX} {ss : List Stmt}, Good Γ k N calm sc X → Takes X W → Own calm sc X → chkSs N calm sc xs ss = true → PSs X ss (tZ X.K W (rdSs Γ xs))
  | [], calm, sc, X, W, ss, G, tk, O, h => by
    cases ss with
    | nil => exact pss_nil.imp fun _ _ _ q => tS_nx q
    | cons _ _ => cases h
  | x :: xs, calm, sc, X, W, ss, G, tk, O, h => by
    by_cases hx : ∃ i, x = .frz i
    · obtain ⟨i, rfl⟩ := hx
      exact (sSs xs G tk O h).imp fun _ _ _ q => tS_frz q
    · cases ss with
      | nil => cases x <;> first | (cases h; done) | exact (hx ⟨_, rfl⟩).elim
      | cons s ss =>
        have h : (chkS N calm sc x s && chkSs N calm sc xs ss) = true := by
          cases x <;> first | exact h | exact (hx ⟨_, rfl⟩).elim
        rw [Bool.and_eq_true] at h
        exact (pss_cons (sS x G tk O h.1) (sSs xs G tk O h.2)).imp fun _ _ _ q => tS_seq q
end
end
end DL

set_option linter.all false
set_option autoImplicit false
set_option maxHeartbeats 1000000
namespace DL
open PySem PySem.Spec PyProof.Rows L2 TL
/-! ### a value told anew: live things of the def's own are frozen, or left behind -/
def DS.le (S S' : DS) : Prop := ∀ a c, S a = some c → S' a = some c
theorem DS.le_refl (S : DS) : S.le S := fun _ _ h => h
theorem DS.le_upd {S S' : DS} {a : Addr} {c : Cell} (h : S.le S') (ha : S a = none) : S.le (S'.upd a c) := fun b c' e => by
  have hne : b ≠ a := fun z => by rw [z, ha] at e; cases e
  rw [DS.upd_ne hne]; exact h b c' e
mutual
inductive Frz (S' S : DS) : D → D → Prop
  | same {d : D} : Frz S' S d d
  | lst {ds es : List D} : FrzL S' S ds es → Frz S' S (.lst ds) (.lst es)
  | tup {ds es : List D} : FrzL S' S ds es → Frz S' S (.tup ds) (.tup es)
  | ref {a : Addr} {ds es : List D} : S a = none → S' a = some (.lst ds) → FrzL S' S ds es → Frz S' S (.ref a) (.lst es)
inductive FrzL (S' S : DS) : List D → List D → Prop
  | nil : FrzL S' S [] []
  | cons {d e : D} {ds es : List D} : Frz S' S d e → FrzL S' S ds es → FrzL S' S (d :: ds) (e :: es)
end
theorem FrzL.same {S' S : DS} : ∀ {ds : List D}, FrzL S' S ds ds
  | [] => .nil
  | _ :: _ => .cons .same FrzL.same
section
variable {K : PySem.W.Frag} {Z H : Hp} {S S' : DS}
theorem shrink_same (h : S.le S') : Same (fz Z H S') (fz Z H S) := fun b u hb => by
  obtain ⟨x1, x2, x3⟩ := fz_some hb
  refine fz_of ?_ x2 x3
  cases e : S b with
  | none => rfl
  | some c => rw [h b c e] at x1; cases x1
theorem Sim.shrink (s : Sim K Z H S') (h : S.le S') : Sim K Z H S where
  zH := s.zH
  zS := fun a o e => by
    cases e2 : S a with
    | none => rfl
    | some c => have := s.zS a o e; rw [h a c e2] at this; cases this
  cells := fun a c e => (s.cells a c (h a c e)).mono (shrink_same h) rfl
mutual
theorem Frz.rep (s : Sim K Z H S') (h : S.le S') : ∀ {d e : D} {v : V}, Frz S' S d e → RepV K (fz Z H S') d v → RepV K (fz Z H S) e v
  | _, _, v, .same, r => RepV.mono (shrink_same h) _ _ r
  | _, _, v, .lst hl, r => by
    simp only [RepV] at r ⊢
    obtain ⟨a, vs, h1, h2, h3⟩ := r
    exact ⟨a, vs, h1, shrink_same h _ _ h2, FrzL.rep s h hl h3⟩
  | _, _, v, .tup hl, r => by
    simp only [RepV] at r ⊢
    obtain ⟨a, vs, h1, h2, h3⟩ := r
    exact ⟨a, vs, h1, seqT_mono (shrink_same h) h2, FrzL.rep s h hl h3⟩
  | _, _, v, .ref ha hc hl, r => by
    simp only [RepV] at r ⊢
    obtain ⟨vs, k1, k2⟩ := s.cells _ _ hc
    refine ⟨_, vs, r, fz_of ha ?_ k1, FrzL.rep s h hl k2⟩
    cases e : Z _ with
    | none => rfl
    | some o => have := s.zS _ o e; rw [hc] at this; cases this
theorem FrzL.rep (s : Sim K Z H S') (h : S.le S') : ∀ {ds es : List D} {vs : List V}, FrzL S' S ds es → RepL K (fz Z H S') ds vs → RepL K (fz Z H S) es vs
  | _, _, vs, .nil, r => by simp only [RepL] at r ⊢; exact r
  | _, _, vs, .cons h1 h2, r => by
    simp only [RepL] at r ⊢
    obtain ⟨v, w, k1, k2, k3⟩ := r
    exact ⟨v, w, k1, Frz.rep s h h1 k2, FrzL.rep s h h2 k3⟩
end
/-- told anew -/
def reQ (Q : QD) : QD := fun d S' => ∃ e S, S.le S' ∧ Frz S' S d e ∧ Q e S
def reE (E : QE) : QE := fun x S' => ∃ S, S.le S' ∧ E x S
theorem Got.re {H0 : Hp} {S0 : DS} {Q : QD} {Qv : VK} (g : Got K Z H0 S0 Q Qv) : Got K Z H0 S0 (reQ Q) Qv := fun v H' d S' e s r ⟨d2, S2, hl, hf, q⟩ =>
  g v H' d2 S2 (e.trans (shrink_same hl)) (s.shrink hl) (hf.rep s hl r) q
theorem GotE.re {H0 : Hp} {S0 : DS} {E : QE} {W : XK} (g : GotE K Z H0 S0 E W) : GotE K Z H0 S0 (reE E) W := fun x S' H' cls d e s r ⟨S2, hl, q⟩ =>
  g x S2 H' cls d (e.trans (shrink_same hl)) (s.shrink hl) (r.mono (shrink_same hl)) q
theorem reQ.mk {Q : QD} {d : D} {S' : DS} (h : Q d S') : reQ Q d S' := ⟨d, S', DS.le_refl _, .same, h⟩
theorem reE.mk {E : QE} {x : Exn} {S' : DS} (h : E x S') : reE E x S' := ⟨S', DS.le_refl _, h⟩
end
/-! ### a def by its body -/
def st0 (ds : List D) (n : Nat) : St0 := ds.map some ++ List.replicate (n - ds.length) none
def bodyEnds (Q : QD) (E : QE) : DEnds := ⟨fun _ S => reQ Q .non S, reQ Q, fun _ _ => False, fun _ _ => False, fun x _ S => reE E x S⟩
def BodyOk (Γ : Gam) (xs : List XS) (m n : Nat) (sp : DSp) : Prop := ∀ ds S Q E, sp ds S Q E → ds.length = m ∧ rdSs Γ xs (bodyEnds Q E) (st0 ds n) S
theorem sts0 {K : PySem.W.Frag} {F : Hp} {ds : List D} {vs : List V} {N : List Str} (r : RepL K F ds vs) : Sts K F (st0 ds N.length) (L2.start N vs) := by
  have hl := r.length
  refine ⟨by unfold st0 L2.start; simp only [List.length_append, List.length_map, List.length_replicate, hl], fun i d e => ?_⟩
  unfold st0 at e
  unfold L2.start
  by_cases hi : i < ds.length
  · rw [List.getElem?_append_left (by simpa using hi), List.getElem?_map] at e
    rw [List.getElem?_append_left (by simpa [hl] using hi), List.getElem?_map]
    cases hd : ds[i]? with
    | none => rw [hd] at e; cases e
    | some d' =>
      rw [hd] at e
      cases e
      obtain ⟨v, h1, h2⟩ := r.get hd
      exact ⟨v, by rw [h1]; rfl, h2⟩
  · rw [List.getElem?_append_right (by simpa using Nat.le_of_not_lt hi), List.getElem?_replicate] at e
    split at e <;> cases e
section
variable {P : Program} {w : World} {K : PySem.W.Frag} {mg : Str → Option Value} {base : Heap} {x qual : Str} {params : Arguments} {body : List Stmt} {scope : Scope} {kws : List (Str × V)} {f : Addr} {fd : FuncData}
theorem def_ok {N ps : List Str} {k : Nat} {sp : DSp} {Γ : Gam} {xs : List XS} (F : FunD K x qual params body scope [] kws f fd) (S : FnScope N ps scope) (hc : chkSs N true scope xs body = true) (G : GamOk P w K mg base Γ k)
    (B : BodyOk Γ xs ps.length N.length sp) : FnOk P w K mg base (L2.CX P w) (k + 1) f fd ps (liftSp K sp) := by
  refine F.ok S (fun vs H Q E h => ?_) (fun cdv A outer s H vs Q E hr h => ⟨tZ K (fun cls d _ H' => E cls d H') (rdSs Γ xs), ?_, ?_⟩)
  · obtain ⟨Z, S0, ds, QD, ED, s, r, h, g, ge⟩ := h
    rw [r.length]
    exact (B ds S0 QD ED h).1
  · exact sSs xs (Γ := Γ) (k := k) (N := N) (calm := true) (sc := scope) ⟨G, S.nd, rfl, rfl, by have := hr.un; show A.units + 3 + 200 < cLine; have h2 : A.units + 3 + 16 * k + 200 < cLine := this; omega, fun _ => ⟨rfl, hr⟩⟩ (takes_of rfl rfl rfl rfl)
      ⟨fun _ _ => .inl rfl, fun _ => ⟨rfl, rfl, PassesOwn.leaving⟩⟩ hc
  · obtain ⟨Z, S0, ds, QD, ED, s, r, h, g, ge⟩ := h
    refine ⟨Z, st0 ds N.length, S0, bodyEnds QD ED, s, sts0 r, (B ds S0 QD ED h).2, ?_⟩
    exact ⟨fun σV' H' σ' S' e s' st' q => g.re .non H' .non S' e s' (by simp only [RepV]) q, g.re, fun _ _ _ _ _ _ _ z => z.elim, fun _ _ _ _ _ _ _ z => z.elim, fun x σV' H' σ' S' cls d e s' st' rx q => ge.re x S' H' cls d e s' rx q⟩
end
end DL

set_option linter.all false
set_option autoImplicit false
namespace DL
open PySem PySem.Spec PyProof.Rows L2 TL
/-! ### readings by simp -/
section
variable {Γ : Gam} {σ : St0} {S : DS} {Q : QD} {E : QE} {D' : DEnds}
@[simp] theorem w_fst {α β : Type} {x : α} {y : β} : (x, y).1 = x := rfl
@[simp] theorem w1_0 {i : Nat} : (rd Γ (.var i)).1 = rVar i := rfl
@[simp] theorem w2_0 {i : Nat} : (rd Γ (.var i)).2 = rTru (rVar i) := rfl
@[simp] theorem w1_1  : (rd Γ (.cN)).1 = rC .non := rfl
@[simp] theorem w2_1  : (rd Γ (.cN)).2 = rTru (rC .non) := rfl
@[simp] theorem w1_2 {b : Bool} : (rd Γ (.cB b)).1 = rC (.bl b) := rfl
@[simp] theorem w2_2 {b : Bool} : (rd Γ (.cB b)).2 = rTru (rC (.bl b)) := rfl
@[simp] theorem w1_3 {i : Int} : (rd Γ (.cI i)).1 = rC (.int i) := rfl
@[simp] theorem w2_3 {i : Int} : (rd Γ (.cI i)).2 = rTru (rC (.int i)) := rfl
@[simp] theorem w1_4 {s : Tx} : (rd Γ (.cS s)).1 = rC (.str s) := rfl
@[simp] theorem w2_4 {s : Tx} : (rd Γ (.cS s)).2 = rTru (rC (.str s)) := rfl
@[simp] theorem w1_5 {x : String} : (rd Γ (.glob x)).1 = rOf (Γ.gv x) := rfl
@[simp] theorem w2_5 {x : String} : (rd Γ (.glob x)).2 = rTru (rOf (Γ.gv x)) := rfl
@[simp] theorem w1_6 {o : BOp} {a b : XE} : (rd Γ (.bin o a b)).1 = r2 (rd Γ a).1 (rd Γ b).1 (binD o) := rfl
@[simp] theorem w2_6 {o : BOp} {a b : XE} : (rd Γ (.bin o a b)).2 = rTru (rd Γ (.bin o a b)).1 := rfl
@[simp] theorem w1_7 {a : XE} : (rd Γ (.neg a)).1 = r1 (rd Γ a).1 dNeg := rfl
@[simp] theorem w2_7 {a : XE} : (rd Γ (.neg a)).2 = rTru (rd Γ (.neg a)).1 := rfl
@[simp] theorem w1_8 {a : XE} : (rd Γ (.not a)).1 = r1 (rd Γ a).1 dNot := rfl
@[simp] theorem w2_8 {a : XE} : (rd Γ (.not a)).2 = rNotT (rd Γ a).2 := rfl
@[simp] theorem w1_9 {l : List XE} : (rd Γ (.and l)).1 = rAndV ((rds Γ l).map (·.1)) := rfl
@[simp] theorem w2_9 {l : List XE} : (rd Γ (.and l)).2 = rAndT ((rds Γ l).map (·.2)) := rfl
@[simp] theorem w1_10 {l : List XE} : (rd Γ (.or l)).1 = rOrV ((rds Γ l).map (·.1)) := rfl
@[simp] theorem w2_10 {l : List XE} : (rd Γ (.or l)).2 = rOrT ((rds Γ l).map (·.2)) := rfl
@[simp] theorem w1_11 {o : COp} {a b : XE} : (rd Γ (.cmp o a b)).1 = r2 (rd Γ a).1 (rd Γ b).1 (cmpD o) := rfl
@[simp] theorem w2_11 {o : COp} {a b : XE} : (rd Γ (.cmp o a b)).2 = rBl (rd Γ (.cmp o a b)).1 := rfl
@[simp] theorem w1_12 {n : Bool} {a : XE} : (rd Γ (.isN n a)).1 = r1 (rd Γ a).1 (dIsN n) := rfl
@[simp] theorem w2_12 {n : Bool} {a : XE} : (rd Γ (.isN n a)).2 = rBl (rd Γ (.isN n a)).1 := rfl
@[simp] theorem w1_13 {o o' : COp} {a b c : XE} : (rd Γ (.chain o o' a b c)).1 = rChain o o' (rd Γ a).1 (rd Γ b).1 (rd Γ c).1 := rfl
@[simp] theorem w2_13 {o o' : COp} {a b c : XE} : (rd Γ (.chain o o' a b c)).2 = rBl (rd Γ (.chain o o' a b c)).1 := rfl
@[simp] theorem w1_14 {c a b : XE} : (rd Γ (.ite c a b)).1 = rIte (rd Γ c).2 (rd Γ a).1 (rd Γ b).1 := rfl
@[simp] theorem w1_15 {l : Bool} {es : List XE} : (rd Γ (.lst l es)).1 = rS (rdL Γ (rds Γ es)) (lstD l) := rfl
@[simp] theorem w2_15 {l : Bool} {es : List XE} : (rd Γ (.lst l es)).2 = rTru (rd Γ (.lst l es)).1 := rfl
@[simp] theorem w1_16 {es : List XE} : (rd Γ (.tup es)).1 = rS (rdL Γ (rds Γ es)) tupD := rfl
@[simp] theorem w2_16 {es : List XE} : (rd Γ (.tup es)).2 = rTru (rd Γ (.tup es)).1 := rfl
@[simp] theorem w1_17 {a b : XE} : (rd Γ (.idx a b)).1 = r2 (rd Γ a).1 (rd Γ b).1 dIdx := rfl
@[simp] theorem w2_17 {a b : XE} : (rd Γ (.idx a b)).2 = rTru (rd Γ (.idx a b)).1 := rfl
@[simp] theorem w1_18 {l : Bool} {a : XE} {lo hi : Option XE} : (rd Γ (.sl l a lo hi)).1 = rSl l (rd Γ a).1 ((rdo Γ lo).map (·.1)) ((rdo Γ hi).map (·.1)) := rfl
@[simp] theorem w2_18 {l : Bool} {a : XE} {lo hi : Option XE} : (rd Γ (.sl l a lo hi)).2 = rTru (rd Γ (.sl l a lo hi)).1 := rfl
@[simp] theorem w1_19 {l : Bool} {tg : XTg} {k : ItK} {es : List XE} {elt : XE} {c : Option XE} : (rd Γ (.comp l tg k es elt c)).1 = rComp l tg k (rdL Γ (rds Γ es)) (rd Γ elt).1 ((rdo Γ c).map (·.2)) := rfl
@[simp] theorem w2_19 {l : Bool} {tg : XTg} {k : ItK} {es : List XE} {elt : XE} {c : Option XE} : (rd Γ (.comp l tg k es elt c)).2 = rTru (rd Γ (.comp l tg k es elt c)).1 := rfl
@[simp] theorem w1_20 {f : String} {es : List XE} : (rd Γ (.call f es)).1 = rFn (Γ.fn f) (rdL Γ (rds Γ es)) := rfl
@[simp] theorem w2_20 {f : String} {es : List XE} : (rd Γ (.call f es)).2 = rTru (rd Γ (.call f es)).1 := rfl
@[simp] theorem w1_21 {b : Bi} {es : List XE} : (rd Γ (.bi b es)).1 = rS (rdL Γ (rds Γ es)) (noE (biD b)) := rfl
@[simp] theorem w2_21 {b : Bi} {es : List XE} : (rd Γ (.bi b es)).2 = rTru (rd Γ (.bi b es)).1 := rfl
@[simp] theorem w1_22 {m : SM} {o : XE} {es : List XE} : (rd Γ (.sm m o es)).1 = rM (rd Γ o).1 isStr (rdL Γ (rds Γ es)) (noE1 (smD m)) := rfl
@[simp] theorem w2_22 {m : SM} {o : XE} {es : List XE} : (rd Γ (.sm m o es)).2 = rTru (rd Γ (.sm m o es)).1 := rfl
@[simp] theorem w1_23 {m : LMt} {o : XE} {es : List XE} : (rd Γ (.lm m o es)).1 = rM (rd Γ o).1 isLst (rdL Γ (rds Γ es)) (noE1 (lmD m)) := rfl
@[simp] theorem w2_23 {m : LMt} {o : XE} {es : List XE} : (rd Γ (.lm m o es)).2 = rTru (rd Γ (.lm m o es)).1 := rfl
@[simp] theorem w1_24 {C m : String} {o : XE} {es : List XE} : (rd Γ (.om C m o es)).1 = rMt (Γ.mt C m) C m (rd Γ o).1 (rdL Γ (rds Γ es)) := rfl
@[simp] theorem w2_24 {C m : String} {o : XE} {es : List XE} : (rd Γ (.om C m o es)).2 = rTru (rd Γ (.om C m o es)).1 := rfl
@[simp] theorem w1_25 {C : String} {es : List XE} : (rd Γ (.new C es)).1 = rNew (Γ.ini C) C (rdL Γ (rds Γ es)) := rfl
@[simp] theorem w2_25 {C : String} {es : List XE} : (rd Γ (.new C es)).2 = rTru (rd Γ (.new C es)).1 := rfl
@[simp] theorem w1_26 {o : XE} {f : String} : (rd Γ (.fld o f)).1 = r1 (rd Γ o).1 (fldD Γ f) := rfl
@[simp] theorem w2_26 {o : XE} {f : String} : (rd Γ (.fld o f)).2 = rTru (rd Γ (.fld o f)).1 := rfl
@[simp] theorem w1_27 {o : XE} {f : String} : (rd Γ (.xfld o f)).1 = r1 (rd Γ o).1 (xfldD Γ f) := rfl
@[simp] theorem w2_27 {o : XE} {f : String} : (rd Γ (.xfld o f)).2 = rTru (rd Γ (.xfld o f)).1 := rfl
@[simp] theorem w1_28 {o : XE} {T : String} : (rd Γ (.isin o T)).1 = r1 (rd Γ o).1 (isinD T) := rfl
@[simp] theorem w2_28 {o : XE} {T : String} : (rd Γ (.isin o T)).2 = rTru (rd Γ (.isin o T)).1 := rfl
@[simp] theorem w1_29 {o : XE} {T : String} : (rd Γ (.isex o T)).1 = r1 (rd Γ o).1 (isexD T) := rfl
@[simp] theorem w2_29 {o : XE} {T : String} : (rd Γ (.isex o T)).2 = rTru (rd Γ (.isex o T)).1 := rfl
@[simp] theorem w1_30  : (rd Γ (.dnew)).1 = rDnew := rfl
@[simp] theorem w2_30  : (rd Γ (.dnew)).2 = rTru rDnew := rfl
@[simp] theorem w1_31 {o k : XE} : (rd Γ (.dix o k)).1 = r2 (rd Γ o).1 (rd Γ k).1 dixD := rfl
@[simp] theorem w2_31 {o k : XE} : (rd Γ (.dix o k)).2 = rTru (rd Γ (.dix o k)).1 := rfl
@[simp] theorem w1_32 {n : Bool} {k : XE} {x : String} : (rd Γ (.gIn n k x)).1 = rG (Γ.gd x) (gInD n) (rd Γ k).1 := rfl
@[simp] theorem w2_32 {n : Bool} {k : XE} {x : String} : (rd Γ (.gIn n k x)).2 = rBl (rd Γ (.gIn n k x)).1 := rfl
@[simp] theorem w1_33 {k : XE} {x : String} : (rd Γ (.gIx x k)).1 = rG (Γ.gd x) gIxD (rd Γ k).1 := rfl
@[simp] theorem w2_33 {k : XE} {x : String} : (rd Γ (.gIx x k)).2 = rTru (rd Γ (.gIx x k)).1 := rfl
@[simp] theorem w1_34 {o : XE} {c : Nat} {z : Tx} : (rd Γ (.rep o c z)).1 = r1 (rd Γ o).1 (repD c z) := rfl
@[simp] theorem w2_34 {o : XE} {c : Nat} {z : Tx} : (rd Γ (.rep o c z)).2 = rTru (rd Γ (.rep o c z)).1 := rfl
@[simp] theorem w1_35 {q : Tx} {r : XE} : (rd Γ (.qadd q r)).1 = r2 (rC (.str q)) (rd Γ r).1 (dAdd false) := rfl
@[simp] theorem w2_35 {q : Tx} {r : XE} : (rd Γ (.qadd q r)).2 = rTru (rd Γ (.qadd q r)).1 := rfl
@[simp] theorem w_rds0 : rds Γ [] = [] := rfl
@[simp] theorem w_rds1 {e : XE} {es : List XE} : rds Γ (e :: es) = rd Γ e :: rds Γ es := rfl
@[simp] theorem w_rdo0 : rdo Γ none = none := rfl
@[simp] theorem w_rdo1 {e : XE} : rdo Γ (some e) = some (rd Γ e) := rfl
@[simp] theorem w_rdL0 : rdL Γ [] = rNil := rfl
@[simp] theorem w_rdL1 {r : RV × RT} {l : List (RV × RT)} : rdL Γ (r :: l) = rCons r.1 (rdL Γ l) := rfl
@[simp] theorem q_rNil {K : List D → DS → Prop} : rNil σ S K E = K [] S := rfl
@[simp] theorem q_rCons {x : RV} {y : RVs} {K : List D → DS → Prop} : rCons x y σ S K E = x σ S (fun d S1 => y σ S1 (fun ds S2 => K (d :: ds) S2) E) E := rfl
@[simp] theorem q_rS {x : RVs} {f : List D → DS → QD → QE → Prop} : rS x f σ S Q E = x σ S (fun ds S1 => f ds S1 Q E) E := rfl
@[simp] theorem q_rC {d : D} : rC d σ S Q E = Q d S := rfl
@[simp] theorem q_rOf1 {d : D} : rOf (some d) σ S Q E = Q d S := rfl
@[simp] theorem q_r1 {x : RV} {f : D → DS → QD → Prop} : r1 x f σ S Q E = x σ S (fun d S1 => f d S1 Q) E := rfl
@[simp] theorem q_r2 {x y : RV} {f : D → D → DS → QD → Prop} : r2 x y f σ S Q E = x σ S (fun a S1 => y σ S1 (fun b S2 => f a b S2 Q) E) E := rfl
@[simp] theorem q_rTru {x : RV} {K : Bool → DS → Prop} : rTru x σ S K E = x σ S (fun d S1 => ∃ t, dTru S1 d = some t ∧ K t S1) E := rfl
@[simp] theorem q_rBl {x : RV} {K : Bool → DS → Prop} : rBl x σ S K E = x σ S (fun d S1 => ∃ t, d = .bl t ∧ K t S1) E := rfl
@[simp] theorem q_rNotT {x : RT} {K : Bool → DS → Prop} : rNotT x σ S K E = x σ S (fun b S1 => K (!b) S1) E := rfl
@[simp] theorem q_rIte {c : RT} {x y : RV} : rIte c x y σ S Q E = c σ S (fun t S1 => if t = true then x σ S1 Q E else y σ S1 Q E) E := rfl
@[simp] theorem q_rAndV1 {x : RV} : rAndV [x] σ S Q E = x σ S Q E := rfl
@[simp] theorem q_rAndV2 {x y : RV} {l : List RV} : rAndV (x :: y :: l) σ S Q E = x σ S (fun d S1 => ∃ t, d = .bl t ∧ if t = true then rAndV (y :: l) σ S1 Q E else Q (.bl false) S1) E := rfl
@[simp] theorem q_rOrV1 {x : RV} : rOrV [x] σ S Q E = x σ S Q E := rfl
@[simp] theorem q_rOrV2 {x y : RV} {l : List RV} : rOrV (x :: y :: l) σ S Q E = x σ S (fun d S1 => ∃ t, d = .bl t ∧ if t = true then Q (.bl true) S1 else rOrV (y :: l) σ S1 Q E) E := rfl
@[simp] theorem q_rAndT1 {x : RT} {K : Bool → DS → Prop} : rAndT [x] σ S K E = x σ S K E := rfl
@[simp] theorem q_rAndT2 {x y : RT} {l : List RT} {K : Bool → DS → Prop} : rAndT (x :: y :: l) σ S K E = x σ S (fun t S1 => if t = true then rAndT (y :: l) σ S1 K E else K false S1) E := rfl
@[simp] theorem q_rOrT1 {x : RT} {K : Bool → DS → Prop} : rOrT [x] σ S K E = x σ S K E := rfl
@[simp] theorem q_rOrT2 {x y : RT} {l : List RT} {K : Bool → DS → Prop} : rOrT (x :: y :: l) σ S K E = x σ S (fun t S1 => if t = true then K true S1 else rOrT (y :: l) σ S1 K E) E := rfl
@[simp] theorem q_rChain {o o' : COp} {x y z : RV} : rChain o o' x y z σ S Q E = x σ S (fun a S1 => y σ S1 (fun b S2 => cmpD o a b S2 fun k S3 => ∃ t, k = .bl t ∧ if t = true then z σ S3 (fun c S4 => cmpD o' b c S4 Q) E else Q (.bl false) S3) E) E := rfl
@[simp] theorem q_rFn1 {sp : DSp} {x : RVs} : rFn (some sp) x σ S Q E = x σ S (fun ds S1 => sp ds S1 Q E) E := rfl
@[simp] theorem q_rNew1 {sp : DSp} {x : RVs} {C : String} : rNew (some sp) C x σ S Q E = x σ S (fun ds S1 => newD sp C ds S1 Q E) E := rfl
@[simp] theorem q_rM {x : RV} {ok : DS → D → Prop} {y : RVs} {f : D → List D → DS → QD → QE → Prop} : rM x ok y f σ S Q E = x σ S (fun d S1 => ok S1 d ∧ y σ S1 (fun ds S2 => f d ds S2 Q E) E) E := rfl
@[simp] theorem q_rMt1 {sp : DSp} {C m : String} {x : RV} {y : RVs} : rMt (some sp) C m x y σ S Q E = x σ S (fun d S1 => isIns C m S1 d ∧ y σ S1 (fun ds S2 => sp (d :: ds) S2 Q E) E) E := rfl
@[simp] theorem q_rG1 {l : List (Tx × Tx)} {f : List (Tx × Tx) → D → DS → QD → Prop} {x : RV} : rG (some l) f x σ S Q E = x σ S (fun d S1 => f l d S1 Q) E := rfl
@[simp] theorem q_rSl0 {l : Bool} {x : RV} : rSl l x none none σ S Q E = x σ S (fun a S1 => dSl l a none none S1 Q) E := rfl
@[simp] theorem q_rSl1 {l : Bool} {x y : RV} : rSl l x (some y) none σ S Q E = x σ S (fun a S1 => y σ S1 (fun b S2 => ∃ i, b = .int i ∧ dSl l a (some i) none S2 Q) E) E := rfl
@[simp] theorem q_rSl2 {l : Bool} {x z : RV} : rSl l x none (some z) σ S Q E = x σ S (fun a S1 => z σ S1 (fun b S2 => ∃ j, b = .int j ∧ dSl l a none (some j) S2 Q) E) E := rfl
@[simp] theorem q_rSl3 {l : Bool} {x y z : RV} : rSl l x (some y) (some z) σ S Q E = x σ S (fun a S1 => y σ S1 (fun b S2 => ∃ i, b = .int i ∧ z σ S2 (fun c S3 => ∃ j, c = .int j ∧ dSl l a (some i) (some j) S3 Q) E) E) E := rfl
@[simp] theorem q_noE {f : List D → DS → QD → Prop} {ds : List D} : noE f ds S Q E = f ds S Q := rfl
@[simp] theorem q_noE1 {f : D → List D → DS → QD → Prop} {d : D} {ds : List D} : noE1 f d ds S Q E = f d ds S Q := rfl
@[simp] theorem q_sSet {e : RV} {i : Nat} : sSet e i D' σ S = e σ S (fun d S1 => D'.nx (σ.set i (some d)) S1) (fun x S1 => D'.ex x σ S1) := rfl
@[simp] theorem q_sTup {e : RV} {is : List Nat} : sTup e is D' σ S = e σ S (fun d S1 => ∃ ds, asSq S1 d = some ds ∧ ds.length = is.length ∧ D'.nx (setS σ is ds) S1) (fun x S1 => D'.ex x σ S1) := rfl
@[simp] theorem q_sEx {e : RV} : sEx e D' σ S = e σ S (fun _ S1 => D'.nx σ S1) (fun x S1 => D'.ex x σ S1) := rfl
@[simp] theorem q_sRet {e : RV} : sRet e D' σ S = e σ S D'.rt (fun x S1 => D'.ex x σ S1) := rfl
@[simp] theorem q_sRetN  : sRetN D' σ S = D'.rt .non S := rfl
@[simp] theorem q_sIte {c : RT} {x y : RS} : sIte c x y D' σ S = c σ S (fun t S1 => if t = true then x D' σ S1 else y D' σ S1) (fun x S1 => D'.ex x σ S1) := rfl
@[simp] theorem q_sNx  : sNx D' σ S = D'.nx σ S := rfl
@[simp] theorem q_sCt  : sCt D' σ S = D'.ct σ S := rfl
@[simp] theorem q_sSeq {x y : RS} : sSeq x y D' σ S = x ⟨y D', D'.rt, D'.bk, D'.ct, D'.ex⟩ σ S := rfl
@[simp] theorem q_sRais1 {C : String} {e : RV} : sRais1 C e D' σ S = e σ S (fun d S1 => (∃ s, d = .str s) ∧ C ∈ exNames ∧ C ≠ "Fault" ∧ D'.ex ⟨C, []⟩ σ S1) (fun x S1 => D'.ex x σ S1) := rfl
@[simp] theorem q_sTry {b su : RS} {C : String} {i : Option Nat} : sTry b C i su D' σ S = b ⟨D'.nx, D'.rt, D'.bk, D'.ct, exTry C i su D'⟩ σ S := rfl
@[simp] theorem q_sFrz {i : Nat} : sFrz i D' σ S = ∃ a ds, σ[i]? = some (some (.ref a)) ∧ S a = some (.lst ds) ∧ D'.nx (σ.set i (some (.lst ds))) (S.del a) := rfl
@[simp] theorem ws_0 {e : XE} {i : Nat} : rdS Γ (.asg (.name i) e) = sSet (rd Γ e).1 i := rfl
@[simp] theorem ws_1 {e : XE} {is : List Nat} : rdS Γ (.asg (.tup is) e) = sTup (rd Γ e).1 is := rfl
@[simp] theorem ws_2 {o e : XE} {f : String} : rdS Γ (.asg (.attr o f) e) = sAttr Γ (rd Γ e).1 (rd Γ o).1 f := rfl
@[simp] theorem ws_3 {o i e : XE} : rdS Γ (.asg (.sub o i) e) = sSub (rd Γ e).1 (rd Γ o).1 (rd Γ i).1 := rfl
@[simp] theorem ws_4 {o i e : XE} : rdS Γ (.asg (.dsub o i) e) = sDsub (rd Γ e).1 (rd Γ o).1 (rd Γ i).1 := rfl
@[simp] theorem ws_5 {e : XE} : rdS Γ (.ex e) = sEx (rd Γ e).1 := rfl
@[simp] theorem ws_6 {e : XE} : rdS Γ (.ret (some e)) = sRet (rd Γ e).1 := rfl
@[simp] theorem ws_7  : rdS Γ (.ret none) = sRetN := rfl
@[simp] theorem ws_8 {c : XE} {a b : List XS} : rdS Γ (.ite c a b) = sIte (rd Γ c).2 (rdSs Γ a) (rdSs Γ b) := rfl
@[simp] theorem ws_9 {c : XE} {b : List XS} : rdS Γ (.whl c b) = sWhl (rd Γ c).2 (rdSs Γ b) := rfl
@[simp] theorem ws_10 {t : XTg} {k : ItK} {es : List XE} {b : List XS} : rdS Γ (.forr t k es b) = sFor t k (rdL Γ (rds Γ es)) (rdSs Γ b) := rfl
@[simp] theorem ws_11 {C : String} {e : XE} : rdS Γ (.rais C [e]) = sRais1 C (rd Γ e).1 := rfl
@[simp] theorem ws_12 {b su : List XS} {C : String} {i : Option Nat} : rdS Γ (.tryx b C i su) = sTry (rdSs Γ b) C i (rdSs Γ su) := rfl
@[simp] theorem ws_13  : rdS Γ (.cont) = sCt := rfl
@[simp] theorem ws_14  : rdS Γ (.pass) = sNx := rfl
@[simp] theorem ws_15 {i : Nat} : rdS Γ (.frz i) = sFrz i := rfl
@[simp] theorem ws_nil : rdSs Γ [] = sNx := rfl
@[simp] theorem ws_cons {s : XS} {r : List XS} : rdSs Γ (s :: r) = sSeq (rdS Γ s) (rdSs Γ r) := rfl
@[simp] theorem b_nx : (bodyEnds Q E).nx σ S = reQ Q .non S := rfl
@[simp] theorem b_rt : (bodyEnds Q E).rt = reQ Q := rfl
@[simp] theorem b_ex {x : Exn} : (bodyEnds Q E).ex x σ S = reE E x S := rfl
@[simp] theorem wo_0 {l : Bool} : binD (.add l) = dAdd l := rfl
@[simp] theorem wo_1  : binD .sub = dSub := rfl
@[simp] theorem wo_2 {l : Bool} : binD (.mul l) = dMul l := rfl
@[simp] theorem wo_3  : binD .fdiv = dFdiv := rfl
@[simp] theorem wo_4  : binD .mod = dMod := rfl
@[simp] theorem wo_5  : binD .pow = dPow := rfl
@[simp] theorem wo_6  : cmpD .eq = dEq false := rfl
@[simp] theorem wo_7  : cmpD .ne = dEq true := rfl
@[simp] theorem wo_8  : cmpD .lt = dOrd .lt := rfl
@[simp] theorem wo_9  : cmpD .le = dOrd .le := rfl
@[simp] theorem wo_10  : cmpD .gt = dOrd .gt := rfl
@[simp] theorem wo_11  : cmpD .ge = dOrd .ge := rfl
@[simp] theorem wo_12  : cmpD .inn = dIn false := rfl
@[simp] theorem wo_13  : cmpD .nin = dIn true := rfl
@[simp] theorem wo_14  : biD .len = bLen := rfl
@[simp] theorem wo_15  : biD .ord = bOrd := rfl
@[simp] theorem wo_16  : biD .abs = bAbs := rfl
@[simp] theorem wo_17  : biD .int = bInt := rfl
@[simp] theorem wo_18  : biD .str = bStr := rfl
@[simp] theorem wo_19  : biD .all = bAll false := rfl
@[simp] theorem wo_20  : biD .any = bAll true := rfl
@[simp] theorem wo_21 {l : Bool} : biD (.list l) = bList l := rfl
@[simp] theorem wo_22  : smD .join = mJoin := rfl
@[simp] theorem wo_23  : smD .lstrip = mLstrip := rfl
@[simp] theorem wo_24  : smD .starts2 = mStarts2 := rfl
@[simp] theorem wo_25  : lmD .append = mApp := rfl
@[simp] theorem wo_26  : lmD .insert = mIns := rfl
@[simp] theorem wo_27  : lmD .extend = mExt := rfl
@[simp] theorem wo_28  : lmD .pop = mPop := rfl
@[simp] theorem wo_29  : lmD .popAt = mPopAt := rfl
@[simp] theorem wo_30  : lmD .index = mIdx := rfl
@[simp] theorem wo_31  : lmD .count = mCount := rfl
@[simp] theorem eq_non_non   : eqB (D.non) (D.non) = true := by simp only [eqB]
@[simp] theorem eq_non_bl  (y : Bool) : eqB (D.non) (D.bl y) = false := by simp only [eqB]
@[simp] theorem eq_non_int  (y : Int) : eqB (D.non) (D.int y) = false := by simp only [eqB]
@[simp] theorem eq_non_str  (y : Tx) : eqB (D.non) (D.str y) = false := by simp only [eqB]
@[simp] theorem eq_non_lst  (y : List D) : eqB (D.non) (D.lst y) = false := by simp only [eqB]
@[simp] theorem eq_non_tup  (y : List D) : eqB (D.non) (D.tup y) = false := by simp only [eqB]
@[simp] theorem eq_bl_non (x : Bool)  : eqB (D.bl x) (D.non) = false := by simp only [eqB]
@[simp] theorem eq_bl_bl (x : Bool) (y : Bool) : eqB (D.bl x) (D.bl y) = (x == y) := by simp only [eqB]
@[simp] theorem eq_bl_int (x : Bool) (y : Int) : eqB (D.bl x) (D.int y) = ((if x then 1 else 0) == y) := by simp only [eqB]
@[simp] theorem eq_bl_str (x : Bool) (y : Tx) : eqB (D.bl x) (D.str y) = false := by simp only [eqB]
@[simp] theorem eq_bl_lst (x : Bool) (y : List D) : eqB (D.bl x) (D.lst y) = false := by simp only [eqB]
@[simp] theorem eq_bl_tup (x : Bool) (y : List D) : eqB (D.bl x) (D.tup y) = false := by simp only [eqB]
@[simp] theorem eq_int_non (x : Int)  : eqB (D.int x) (D.non) = false := by simp only [eqB]
@[simp] theorem eq_int_bl (x : Int) (y : Bool) : eqB (D.int x) (D.bl y) = (x == (if y then 1 else 0)) := by simp only [eqB]
@[simp] theorem eq_int_int (x : Int) (y : Int) : eqB (D.int x) (D.int y) = (x == y) := by simp only [eqB]
@[simp] theorem eq_int_str (x : Int) (y : Tx) : eqB (D.int x) (D.str y) = false := by simp only [eqB]
@[simp] theorem eq_int_lst (x : Int) (y : List D) : eqB (D.int x) (D.lst y) = false := by simp only [eqB]
@[simp] theorem eq_int_tup (x : Int) (y : List D) : eqB (D.int x) (D.tup y) = false := by simp only [eqB]
@[simp] theorem eq_str_non (x : Tx)  : eqB (D.str x) (D.non) = false := by simp only [eqB]
@[simp] theorem eq_str_bl (x : Tx) (y : Bool) : eqB (D.str x) (D.bl y) = false := by simp only [eqB]
@[simp] theorem eq_str_int (x : Tx) (y : Int) : eqB (D.str x) (D.int y) = false := by simp only [eqB]
@[simp] theorem eq_str_str (x : Tx) (y : Tx) : eqB (D.str x) (D.str y) = (x == y) := by simp only [eqB]
@[simp] theorem eq_str_lst (x : Tx) (y : List D) : eqB (D.str x) (D.lst y) = false := by simp only [eqB]
@[simp] theorem eq_str_tup (x : Tx) (y : List D) : eqB (D.str x) (D.tup y) = false := by simp only [eqB]
@[simp] theorem eq_lst_non (x : List D)  : eqB (D.lst x) (D.non) = false := by simp only [eqB]
@[simp] theorem eq_lst_bl (x : List D) (y : Bool) : eqB (D.lst x) (D.bl y) = false := by simp only [eqB]
@[simp] theorem eq_lst_int (x : List D) (y : Int) : eqB (D.lst x) (D.int y) = false := by simp only [eqB]
@[simp] theorem eq_lst_str (x : List D) (y : Tx) : eqB (D.lst x) (D.str y) = false := by simp only [eqB]
@[simp] theorem eq_lst_lst (x : List D) (y : List D) : eqB (D.lst x) (D.lst y) = eqBs x y := by simp only [eqB]
@[simp] theorem eq_lst_tup (x : List D) (y : List D) : eqB (D.lst x) (D.tup y) = false := by simp only [eqB]
@[simp] theorem eq_tup_non (x : List D)  : eqB (D.tup x) (D.non) = false := by simp only [eqB]
@[simp] theorem eq_tup_bl (x : List D) (y : Bool) : eqB (D.tup x) (D.bl y) = false := by simp only [eqB]
@[simp] theorem eq_tup_int (x : List D) (y : Int) : eqB (D.tup x) (D.int y) = false := by simp only [eqB]
@[simp] theorem eq_tup_str (x : List D) (y : Tx) : eqB (D.tup x) (D.str y) = false := by simp only [eqB]
@[simp] theorem eq_tup_lst (x : List D) (y : List D) : eqB (D.tup x) (D.lst y) = false := by simp only [eqB]
@[simp] theorem eq_tup_tup (x : List D) (y : List D) : eqB (D.tup x) (D.tup y) = eqBs x y := by simp only [eqB]
@[simp] theorem eqs_00 : eqBs [] [] = true := by simp only [eqBs]
@[simp] theorem eqs_01 (y : D) (ys : List D) : eqBs [] (y :: ys) = false := by simp only [eqBs]
@[simp] theorem eqs_10 (y : D) (ys : List D) : eqBs (y :: ys) [] = false := by simp only [eqBs]
@[simp] theorem eqs_11 (x y : D) (xs ys : List D) : eqBs (x :: xs) (y :: ys) = (eqB x y && eqBs xs ys) := by simp only [eqBs]
@[simp] theorem op_0 {i j : Int} {l : Bool} : dAdd l (.int i) (.int j) S Q = Q (.int (i + j)) S := rfl
@[simp] theorem op_1 {s t : Tx} {l : Bool} : dAdd l (.str s) (.str t) S Q = (s.length + t.length ≤ 16777216 ∧ Q (.str (s ++ t)) S) := rfl
@[simp] theorem op_2 {s t : List D} {l : Bool} : dAdd l (.lst s) (.lst t) S Q = (s.length + t.length ≤ 16777216 ∧ mkL l (s ++ t) S Q) := rfl
@[simp] theorem op_3 {a : Addr} {t : List D} {l : Bool} : dAdd l (.ref a) (.lst t) S Q = ∃ xs ys, asL S (.ref a) = some xs ∧ asL S (.lst t) = some ys ∧ xs.length + ys.length ≤ 16777216 ∧ mkL l (xs ++ ys) S Q := rfl
@[simp] theorem op_4 {a : Addr} {t : List D} {l : Bool} : dAdd l (.lst t) (.ref a) S Q = ∃ xs ys, asL S (.lst t) = some xs ∧ asL S (.ref a) = some ys ∧ xs.length + ys.length ≤ 16777216 ∧ mkL l (xs ++ ys) S Q := rfl
@[simp] theorem op_5 {i j : Int} : dSub (.int i) (.int j) S Q = Q (.int (i - j)) S := rfl
@[simp] theorem op_6 {i j : Int} : dFdiv (.int i) (.int j) S Q = ((0 < j ∧ j < 1073741824) ∧ Q (.int (i / j)) S) := rfl
@[simp] theorem op_7 {i j : Int} : dMod (.int i) (.int j) S Q = (0 < j ∧ Q (.int (i % j)) S) := rfl
@[simp] theorem op_8 {i j : Int} : dPow (.int i) (.int j) S Q = ((0 ≤ j ∧ j ≤ 1000000 ∧ i.natAbs < 2 ^ 64) ∧ Q (.int (i ^ j.toNat)) S) := rfl
@[simp] theorem op_9 {i j : Int} {l : Bool} : dMul l (.int i) (.int j) S Q = (((-(2 ^ 64) < i ∧ i < 2 ^ 64) ∨ (-(2 ^ 64) < j ∧ j < 2 ^ 64)) ∧ Q (.int (i * j)) S) := rfl
@[simp] theorem op_10 {s : Tx} {n : Int} {l : Bool} : dMul l (.str s) (.int n) S Q = ((-1000000 ≤ n ∧ n ≤ 1000000 ∧ s.length * n.toNat ≤ 16777216) ∧ Q (.str (repS s n)) S) := rfl
@[simp] theorem op_11 {s : List D} {n : Int} {l : Bool} : dMul l (.lst s) (.int n) S Q = ((-1000000 ≤ n ∧ n ≤ 1000000 ∧ s.length * n.toNat ≤ 16777216) ∧ mkL l (List.replicate n.toNat s).flatten S Q) := rfl
@[simp] theorem op_12 {x y : D} {g : Bool} : dEq g x y S Q = (dh (deref S x) ≤ 64 ∧ dh (deref S y) ≤ 64 ∧ Q (.bl (if g then !eqB (deref S x) (deref S y) else eqB (deref S x) (deref S y))) S) := rfl
@[simp] theorem op_13 {o : Ord} {i j : Int} : dOrd o (.int i) (.int j) S Q = Q (.bl (ordI o i j)) S := rfl
@[simp] theorem op_14 {o : Ord} {s t : Tx} : dOrd o (.str s) (.str t) S Q = Q (.bl (ordS o s t)) S := rfl
@[simp] theorem op_15 {i j : Int} : ordI .lt i j = decide (i < j) := rfl
@[simp] theorem op_16 {i j : Int} : ordI .le i j = decide (i ≤ j) := rfl
@[simp] theorem op_17 {i j : Int} : ordI .gt i j = decide (j < i) := rfl
@[simp] theorem op_18 {i j : Int} : ordI .ge i j = decide (j ≤ i) := rfl
@[simp] theorem op_19 {s t : Tx} : ordS .lt s t = decide (s < t) := rfl
@[simp] theorem op_20 {s t : Tx} : ordS .le s t = !decide (t < s) := rfl
@[simp] theorem op_21 {s t : Tx} : ordS .gt s t = decide (t < s) := rfl
@[simp] theorem op_22 {s t : Tx} : ordS .ge s t = !decide (s < t) := rfl
@[simp] theorem op_23 {g : Bool} : dIsN g .non S Q = Q (.bl (!g)) S := rfl
@[simp] theorem op_24 {g : Bool} {b : Bool} : dIsN g (.bl b) S Q = Q (.bl g) S := rfl
@[simp] theorem op_25 {g : Bool} {b : Int} : dIsN g (.int b) S Q = Q (.bl g) S := rfl
@[simp] theorem op_26 {g : Bool} {b : Tx} : dIsN g (.str b) S Q = Q (.bl g) S := rfl
@[simp] theorem op_27 {g : Bool} {b : List D} : dIsN g (.lst b) S Q = Q (.bl g) S := rfl
@[simp] theorem op_28 {g : Bool} {b : List D} : dIsN g (.tup b) S Q = Q (.bl g) S := rfl
@[simp] theorem op_29 {g : Bool} {b : Addr} : dIsN g (.ref b) S Q = Q (.bl g) S := rfl
@[simp] theorem op_30 {g : Bool} {b : Addr} {c : String} {f : List (String × D)} : dIsN g (.exc b c f) S Q = Q (.bl g) S := rfl
@[simp] theorem op_31 {g : Bool} {b : Addr} {c : String} {f : List (String × D)} : dIsN g (.ins b c f) S Q = Q (.bl g) S := rfl
@[simp] theorem op_32  : dTru S .non = some false := rfl
@[simp] theorem op_33 {b : Bool} : dTru S (.bl b) = some b := rfl
@[simp] theorem op_34 {b : Int} : dTru S (.int b) = some (b != 0) := rfl
@[simp] theorem op_35 {b : Tx} : dTru S (.str b) = some (!b.isEmpty) := rfl
@[simp] theorem op_36 {b : List D} : dTru S (.lst b) = some (!b.isEmpty) := rfl
@[simp] theorem op_37 {b : List D} : dTru S (.tup b) = some (!b.isEmpty) := rfl
@[simp] theorem op_38 {b : List Int} : dTru S (.scr b) = some (!b.isEmpty) := rfl
@[simp] theorem op_39 {b : List D} : asSq S (.lst b) = some b := rfl
@[simp] theorem op_40 {b : List D} : asSq S (.tup b) = some b := rfl
@[simp] theorem op_41 {b : List D} : asL S (.lst b) = some b := rfl
@[simp] theorem op_42 {s : Tx} : deref S (.str s) = .str s := rfl
@[simp] theorem op_43 {s : Int} : deref S (.int s) = .int s := rfl
@[simp] theorem op_44 {s : Bool} : deref S (.bl s) = .bl s := rfl
@[simp] theorem op_45  : deref S .non = .non := rfl
@[simp] theorem op_46 {s : List D} : deref S (.lst s) = .lst s := rfl
@[simp] theorem op_47 {s : List D} : deref S (.tup s) = .tup s := rfl
@[simp] theorem op_48 {s : Tx} : dh (.str s) = 0 := rfl
@[simp] theorem op_49 {s : Int} : dh (.int s) = 0 := rfl
@[simp] theorem op_50 {s : Bool} : dh (.bl s) = 0 := rfl
@[simp] theorem op_51  : dh .non = 0 := rfl
@[simp] theorem op_52 {s : List D} : dh (.lst s) = dhs s + 1 := rfl
@[simp] theorem op_53 {s : List D} : dh (.tup s) = dhs s + 1 := rfl
@[simp] theorem op_54  : dhs [] = 0 := rfl
@[simp] theorem op_55 {d : D} {s : List D} : dhs (d :: s) = max (dh d) (dhs s) := rfl
@[simp] theorem op_56 {s : Tx} {i : Int} : dIdx (.str s) (.int i) S Q = ∃ c, atI s i = some c ∧ Q (.str [c]) S := rfl
@[simp] theorem op_57 {s : List Int} {i : Int} : dIdx (.scr s) (.int i) S Q = ∃ c, atI s i = some c ∧ Q (.int c) S := rfl
@[simp] theorem op_58 {s : List D} {i : Int} : dIdx (.lst s) (.int i) S Q = ∃ ds d, asSq S (.lst s) = some ds ∧ atI ds i = some d ∧ Q d S := rfl
@[simp] theorem op_59 {s : List D} {i : Int} : dIdx (.tup s) (.int i) S Q = ∃ ds d, asSq S (.tup s) = some ds ∧ atI ds i = some d ∧ Q d S := rfl
@[simp] theorem op_60 {s : Addr} {i : Int} : dIdx (.ref s) (.int i) S Q = ∃ ds d, asSq S (.ref s) = some ds ∧ atI ds i = some d ∧ Q d S := rfl
@[simp] theorem op_61 {s : Tx} {lo hi : Option Int} {l : Bool} : dSl l (.str s) lo hi S Q = Q (.str (cut s lo hi)) S := rfl
@[simp] theorem op_62 {s : List D} {lo hi : Option Int} {l : Bool} : dSl l (.lst s) lo hi S Q = mkL l (cut s lo hi) S Q := rfl
@[simp] theorem op_63 {s : Addr} {lo hi : Option Int} {l : Bool} : dSl l (.ref s) lo hi S Q = ∃ ds, S s = some (.lst ds) ∧ mkL l (cut ds lo hi) S Q := rfl
@[simp] theorem op_64 {s : Tx} : bLen [.str s] S Q = Q (.int s.length) S := rfl
@[simp] theorem op_65 {s : List Int} : bLen [.scr s] S Q = Q (.int s.length) S := rfl
@[simp] theorem op_66 {s : List D} : bLen [.lst s] S Q = ∃ ds, asSq S (.lst s) = some ds ∧ Q (.int ds.length) S := rfl
@[simp] theorem op_67 {s : List D} : bLen [.tup s] S Q = ∃ ds, asSq S (.tup s) = some ds ∧ Q (.int ds.length) S := rfl
@[simp] theorem op_68 {s : Addr} : bLen [.ref s] S Q = ∃ ds, asSq S (.ref s) = some ds ∧ Q (.int ds.length) S := rfl
@[simp] theorem op_69 {c : Nat} : bOrd [.str [c]] S Q = Q (.int c) S := rfl
@[simp] theorem op_70 {i : Int} : bAbs [.int i] S Q = Q (.int (if i < 0 then -i else i)) S := rfl
@[simp] theorem op_71 {i : Int} : bInt [.int i] S Q = Q (.int i) S := rfl
@[simp] theorem op_72 {i : Bool} : bInt [.bl i] S Q = Q (.int (if i then 1 else 0)) S := rfl
@[simp] theorem op_73 {t : Tx} : bInt [.str t] S Q = ∃ n, PySem.intText? (tS t) = some n ∧ t.length ≤ 640 ∧ Q (.int n) S := rfl
@[simp] theorem op_74 {i : Int} : bStr [.int i] S Q = (i.natAbs.log2 < 1920 ∧ (numT i).length ≤ 1000 ∧ Q (.str (numT i)) S) := rfl
@[simp] theorem op_75 {x : D} {g : Bool} : bAll g [x] S Q = ∃ ds bs, asL S x = some ds ∧ blsOf ds = some bs ∧ Q (.bl (if g then bs.any id else bs.all id)) S := rfl
@[simp] theorem op_76 {x : D} {l : Bool} : bList l [x] S Q = ∃ ds, asSq S x = some ds ∧ mkL l ds S Q := rfl
@[simp] theorem op_77 {ds : List D} : mkL false ds S Q = Q (.lst ds) S := rfl
@[simp] theorem op_78 {ds : List D} : mkL true ds S Q = ∀ a, S a = none → Q (.ref a) (S.upd a (.lst ds)) := rfl
@[simp] theorem op_79 {ds : List D} {l : Bool} : lstD l ds S Q E = (ds.length ≤ 16777216 ∧ mkL l ds S Q) := rfl
@[simp] theorem op_80 {ds : List D} : tupD ds S Q E = (ds.length ≤ 16777216 ∧ Q (.tup ds) S) := rfl
@[simp] theorem op_81 {x : D} {T : String} : isinD T x S Q = ∃ t, tyD S x = some t ∧ Q (.bl (subTy t T)) S := rfl
@[simp] theorem op_82  : tyD S .non = some "NoneType" := rfl
@[simp] theorem op_83 {b : Bool} : tyD S (.bl b) = some "bool" := rfl
@[simp] theorem op_84 {b : Int} : tyD S (.int b) = some "int" := rfl
@[simp] theorem op_85 {b : Tx} : tyD S (.str b) = some "str" := rfl
@[simp] theorem op_86 {b : List D} : tyD S (.lst b) = some "list" := rfl
@[simp] theorem op_87 {b : List D} : tyD S (.tup b) = some "tuple" := rfl
@[simp] theorem op_88 {a : Addr} {c T : String} {f : List (String × D)} : isexD T (.exc a c f) S Q = (exNames.contains c = true ∧ Q (.bl (subEx c T)) S) := rfl
@[simp] theorem op_89 {i : Int} : dNeg (.int i) S Q = Q (.int (-i)) S := rfl
@[simp] theorem op_90 {x : D} : dNot x S Q = ∃ b, dTru S x = some b ∧ Q (.bl (!b)) S := rfl
@[simp] theorem op_91 {a : Addr} {y : D} : mApp (.ref a) [y] S Q = ∃ ds, S a = some (.lst ds) ∧ ds.length < 16777216 ∧ Q .non (S.upd a (.lst (ds ++ [y]))) := rfl
@[simp] theorem op_92 {a : Addr} {i : Int} {y : D} : mIns (.ref a) [.int i, y] S Q = ∃ ds, S a = some (.lst ds) ∧ ds.length < 16777216 ∧ 0 ≤ i ∧ i < 2 ^ 63 ∧ Q .non (S.upd a (.lst (ds.take i.toNat ++ [y] ++ ds.drop i.toNat))) := rfl
@[simp] theorem op_93 {x y : D} : mIdx x [y] S Q = ∃ ds j, asL S x = some ds ∧ flatD y = true ∧ ds.all flatD = true ∧ ds.findIdx? (fun d => eqB d y) = some j ∧ Q (.int (j : Nat)) S := rfl
@[simp] theorem op_94 {x y : D} : mCount x [y] S Q = ∃ ds, asL S x = some ds ∧ flatD y = true ∧ ds.all flatD = true ∧ Q (.int (ds.countP (fun d => eqB d y) : Nat)) S := rfl
@[simp] theorem op_95 {a : Tx} {x : D} : mJoin (.str a) [x] S Q = ∃ ts, asSq S x = some (ts.map D.str) ∧ (ts.map (·.length)).sum + ts.length * a.length ≤ 16777216 ∧ Q (.str (joinL a ts)) S := rfl
@[simp] theorem op_96 {a : Tx} : mLstrip (.str a) [.str [32]] S Q = Q (.str (lstripT a)) S := rfl
@[simp] theorem op_97 {a b : Tx} {i : Int} : mStarts2 (.str a) [.str b, .int i] S Q = (0 ≤ i ∧ i ≤ a.length ∧ Q (.bl (startsAt a b i.toNat)) S) := rfl
@[simp] theorem op_98 {l : List (Tx × Tx)} {g : Bool} {t : Tx} : gInD g l (.str t) S Q = Q (.bl (if g then !(lookG l t).isSome else (lookG l t).isSome)) S := rfl
@[simp] theorem op_99 {l : List (Tx × Tx)} {t : Tx} : gIxD l (.str t) S Q = ∃ z, lookG l t = some z ∧ Q (.str z) S := rfl
@[simp] theorem op_100 {c : Nat} {z s : Tx} : repD c z (.str s) S Q = ∃ s', D.str s = .str s' ∧ s'.length + (s'.length + 1) * z.length ≤ 16777216 ∧ Q (.str (repl1 c z s')) S := rfl
@[simp] theorem op_101 {x : D} : isStr S x = ∃ s, x = .str s := rfl
@[simp] theorem op_102 {x : D} : isLst S x = ∃ ds, asL S x = some ds := rfl
@[simp] theorem op_103 {i : Nat} {d : D} {K : St0 → Prop} : bindT S (.name i) d σ K = K (σ.set i (some d)) := rfl
@[simp] theorem op_104 {is : List Nat} {d : D} {K : St0 → Prop} : bindT S (.tup is) d σ K = ∃ ds, asSq S d = some ds ∧ ds.length = is.length ∧ K (setS σ is ds) := rfl
@[simp] theorem op_105 {i : Nat} {is : List Nat} {d : D} {ds : List D} : setS σ (i :: is) (d :: ds) = setS (σ.set i (some d)) is ds := rfl
@[simp] theorem op_106  : setS σ [] [] = σ := rfl
@[simp] theorem op_107  : wipeS σ [] = σ := rfl
@[simp] theorem op_108 {i : Nat} {is : List Nat} : wipeS σ (i :: is) = (wipeS σ is).set i none := rfl
@[simp] theorem op_109 {i : Nat} : (XTg.name i).slots = [i] := rfl
@[simp] theorem op_110 {is : List Nat} : (XTg.tup is).slots = is := rfl
@[simp] theorem op_111 {s : Tx} : itemsOf .seq [.str s] S = some (s.map fun c => .str [c]) := rfl
@[simp] theorem op_112 {s : List D} : itemsOf .seq [.lst s] S = some s := rfl
@[simp] theorem op_113 {s : List D} : itemsOf .seq [.tup s] S = some s := rfl
@[simp] theorem op_114 {n : Int} : itemsOf .range1 [.int n] S = some ((List.range n.toNat).map fun i => .int (Int.ofNat i)) := rfl
@[simp] theorem op_115 {a b : Int} : itemsOf .range2 [.int a, .int b] S = some ((List.range (b - a).toNat).map fun i => .int (a + Int.ofNat i)) := rfl
@[simp] theorem op_116 {d : D} : itOk .seq [d] = True := rfl
@[simp] theorem op_117 {n : Int} : itOk .range1 [.int n] = (-(2 ^ 62) ≤ n ∧ n < 2 ^ 62) := rfl
@[simp] theorem op_118 {a b : Int} : itOk .range2 [.int a, .int b] = (-(2 ^ 62) ≤ a ∧ a < 2 ^ 62 ∧ -(2 ^ 62) ≤ b ∧ b < 2 ^ 62) := rfl
@[simp] theorem op_119 {K : DEnds} {f : St0 → DS → Prop} : K.lp f = ⟨f, K.rt, K.nx, f, K.ex⟩ := rfl
def slotP (o : Option (Option D)) (S : DS) (Q : QD) : Prop := match o with
  | some (some d) => Q d S
  | _ => False
@[simp] theorem q_slotP {d : D} : slotP (some (some d)) S Q = Q d S := rfl
@[simp] theorem q_rVar {i : Nat} : rVar i σ S Q E = slotP σ[i]? S Q := by unfold rVar slotP; rfl
def lstC : Option Cell → Option (List D)
  | some (.lst ds) => some ds
  | _ => none
@[simp] theorem d_lstC {ds : List D} : lstC (some (.lst ds)) = some ds := rfl
@[simp] theorem d_asSq {a : Addr} : asSq S (.ref a) = lstC (S a) := rfl
@[simp] theorem d_asL {a : Addr} : asL S (.ref a) = lstC (S a) := rfl
@[simp] theorem d_items {a : Addr} : itemsOf .seq [.ref a] S = lstC (S a) := rfl
def tyC : Option Cell → Option String
  | some (.lst _) => some "list"
  | some (.dct _) => some "dict"
  | _ => none
@[simp] theorem d_tyC {ds : List D} : tyC (some (.lst ds)) = some "list" := rfl
@[simp] theorem d_tyL {a : Addr} : tyD S (.ref a) = tyC (S a) := rfl
def truC : Option Cell → Option Bool
  | some (.lst ds) => some (!ds.isEmpty)
  | some (.dct ds) => some (!ds.isEmpty)
  | _ => none
@[simp] theorem d_truC {ds : List D} : truC (some (.lst ds)) = some (!ds.isEmpty) := rfl
@[simp] theorem d_truD {ds : List (Tx × D)} : truC (some (.dct ds)) = some (!ds.isEmpty) := rfl
@[simp] theorem d_truL {a : Addr} : dTru S (.ref a) = truC (S a) := rfl
def derefC (a : Addr) : Option Cell → D
  | some (.lst ds) => .lst ds
  | _ => .ref a
@[simp] theorem d_derefC {a : Addr} {ds : List D} : derefC a (some (.lst ds)) = .lst ds := rfl
@[simp] theorem d_derefL {a : Addr} : deref S (.ref a) = derefC a (S a) := rfl
@[simp] theorem d_tyDct {b : List (Tx × D)} : tyD S (.dct b) = some "dict" := rfl
@[simp] theorem q_rComp {l : Bool} {tg : XTg} {k : ItK} {es : RVs} {elt : RV} {c : Option RT} : rComp l tg k es elt c σ S Q E = es σ S (fun ds S1 => ∃ items, itemsOf k ds S1 = some items ∧ itOk k ds ∧ items.length ≤ 16777216 ∧
      compD (fun S' => itemsOf k ds S' = some items) (bodyC tg elt c σ) items S1 (fun outs S2 => mkL l outs S2 Q)) E := rfl
@[simp] theorem q_bodyC0 {tg : XTg} {elt : RV} {d : D} {C : Option D → DS → Prop} : bodyC tg elt none σ d S C = bindT S tg d (wipeS σ tg.slots) fun σ' => elt σ' S (fun y S4 => C (some y) S4) E0 := rfl
@[simp] theorem q_bodyC1 {tg : XTg} {elt : RV} {c : RT} {d : D} {C : Option D → DS → Prop} : bodyC tg elt (some c) σ d S C = bindT S tg d (wipeS σ tg.slots) fun σ' => c σ' S (fun b S3 => if b = true then elt σ' S3 (fun y S4 => C (some y) S4) E0 else C none S3) E0 := rfl
@[simp] theorem d_inStr {g : Bool} {c : Nat} {t : Tx} : dIn g (.str [c]) (.str t) S Q = Q (.bl (if g then !decide (c ∈ t) else decide (c ∈ t))) S := by
  apply propext
  constructor
  · rintro ⟨c', e, h⟩
    cases e; exact h
  · exact fun h => ⟨c, rfl, h⟩
@[simp] theorem d_inLst {g : Bool} {x : D} {ds : List D} : dIn g x (.lst ds) S Q = (flatD x = true ∧ ds.all flatD = true ∧ Q (.bl (if g then !(ds.any fun d => eqB d x) else ds.any fun d => eqB d x)) S) := by
  apply propext
  constructor
  · rintro (⟨ds', e, h1, h2, h⟩ | ⟨k, kvs, _, e, _⟩)
    · cases e; exact ⟨h1, h2, h⟩
    · cases e
  · exact fun ⟨h1, h2, h⟩ => .inl ⟨ds, rfl, h1, h2, h⟩
@[simp] theorem fl_n : flatD .non = true := rfl
@[simp] theorem fl_b {b : Bool} : flatD (.bl b) = true := rfl
@[simp] theorem fl_i {b : Int} : flatD (.int b) = true := rfl
@[simp] theorem fl_s {b : Tx} : flatD (.str b) = true := rfl
@[simp] theorem ex_not {b : Bool} {P : Bool → Prop} : (∃ t, (b = !t) ∧ P t) ↔ P (!b) := by
  constructor
  · rintro ⟨t, h, p⟩
    cases t <;> cases b <;> first | exact p | cases h
  · intro p
    exact ⟨!b, by simp, p⟩
/-- two ends in one -/
theorem ite_bl {p : Prop} [Decidable p] {a b : Bool} : (if p then reQ Q (.bl a) S else reQ Q (.bl b) S) = reQ Q (.bl (if p then a else b)) S := by split <;> rfl
theorem C_of {α : Type} {C : α → Prop} {a b : α} (h : C b) (e : a = b) : C a := e ▸ h
theorem bl_of {a b : Bool} (h : reQ Q (.bl b) S) (e : a = b) : reQ Q (.bl a) S := e ▸ h
end
theorem comp_map {α : Type} {S : DS} {stay : DS → Prop} {f : D → DS → (Option D → DS → Prop) → Prop} {ι : α → D} (g : α → D) (hs : stay S) : ∀ {xs : List α} {K : List D → DS → Prop}, (∀ x ∈ xs, ∀ C : Option D → DS → Prop, C (some (g x)) S → f (ι x) S C) → K (xs.map g) S → compD stay f (xs.map ι) S K
  | [], K, _, hk => ⟨hs, hk⟩
  | x :: xs, K, hf, hk => ⟨hs, hf x (by simp) _ (comp_map g hs (fun e he => hf e (List.mem_cons_of_mem _ he)) hk)⟩
theorem comp_map0 {S : DS} {stay : DS → Prop} {f : D → DS → (Option D → DS → Prop) → Prop} (g : D → D) {xs : List D} {K : List D → DS → Prop} (hs : stay S) (h : ∀ x ∈ xs, ∀ C : Option D → DS → Prop, C (some (g x)) S → f x S C) (hk : K (xs.map g) S) : compD stay f xs S K := by
  have := comp_map (ι := fun d => d) g hs (xs := xs) h hk
  rwa [List.map_id'] at this
theorem comp_filt {α : Type} {S : DS} {stay : DS → Prop} {f : D → DS → (Option D → DS → Prop) → Prop} {ι : α → D} (p : α → Bool) (g : α → D) (hs : stay S) : ∀ {xs : List α} {K : List D → DS → Prop}, (∀ x ∈ xs, ∀ C : Option D → DS → Prop, C (if p x = true then some (g x) else none) S → f (ι x) S C) →
    K ((xs.filter p).map g) S → compD stay f (xs.map ι) S K
  | [], K, _, hk => ⟨hs, hk⟩
  | x :: xs, K, hf, hk => by
    refine ⟨hs, hf x (by simp) _ (comp_filt p g hs (fun e he => hf e (List.mem_cons_of_mem _ he)) ?_)⟩
    by_cases hp : p x = true
    · rw [List.filter_cons_of_pos hp] at hk
      rw [if_pos hp]; exact hk
    · rw [List.filter_cons_of_neg hp] at hk
      rw [if_neg hp]; exact hk
/-- a comprehension by an invariant -/
theorem comp_from {stay : DS → Prop} {f : D → DS → (Option D → DS → Prop) → Prop} {items : List D} (R : Nat → List D → DS → Prop) (hstay : ∀ i outs S, R i outs S → stay S)
    (hf : ∀ i outs S (h : i < items.length), R i outs S → ∀ C : Option D → DS → Prop, (∀ o S', R (i + 1) (outs ++ o.toList) S' → C o S') → f items[i] S C) : ∀ (j : Nat) {i : Nat} {outs : List D} {S : DS} {K : List D → DS → Prop}, j = items.length - i → i ≤ items.length → R i outs S →
      (∀ t S', R items.length (outs ++ t) S' → K t S') → compD stay f (items.drop i) S K
  | 0, i, outs, S, K, hj, hi, hR, hK => by
    have e : i = items.length := by omega
    subst e
    rw [List.drop_length]
    exact ⟨hstay _ _ _ hR, hK [] S (by rw [List.append_nil]; exact hR)⟩
  | j + 1, i, outs, S, K, hj, hi, hR, hK => by
    have hlt : i < items.length := by omega
    rw [List.drop_eq_getElem_cons hlt]
    refine ⟨hstay _ _ _ hR, hf i outs S hlt hR _ fun o S' hR' => ?_⟩
    refine comp_from R hstay hf j (by omega) hlt hR' fun t S'' h => ?_
    cases o with
    | none => exact hK t S'' (by simpa using h)
    | some d => exact hK (d :: t) S'' (by simpa using h)
theorem comp_ind {stay : DS → Prop} {f : D → DS → (Option D → DS → Prop) → Prop} {items : List D} {S : DS} {K : List D → DS → Prop} (R : Nat → List D → DS → Prop) (hstay : ∀ i outs S, R i outs S → stay S)
    (hf : ∀ i outs S (h : i < items.length), R i outs S → ∀ C : Option D → DS → Prop, (∀ o S', R (i + 1) (outs ++ o.toList) S' → C o S') → f items[i] S C) (h0 : R 0 [] S) (hK : ∀ t S', R items.length t S' → K t S') : compD stay f items S K := by
  have := comp_from (items := items) (K := K) R hstay hf items.length (i := 0) (outs := []) (S := S) rfl (Nat.zero_le _) h0 (by simpa using hK)
  simpa using this
/-- a for loop by an invariant -/
theorem for_from {stay : DS → Prop} {f : D → (St0 → DS → Prop) → St0 → DS → Prop} {nx : St0 → DS → Prop} {items : List D} (R : Nat → St0 → DS → Prop) (hstay : ∀ i σ S, R i σ S → stay S)
    (hf : ∀ i σ S (h : i < items.length), R i σ S → ∀ C : St0 → DS → Prop, (∀ σ' S', R (i + 1) σ' S' → C σ' S') → f items[i] C σ S) (hn : ∀ σ S, R items.length σ S → nx σ S) : ∀ (j : Nat) {i : Nat} {σ : St0} {S : DS}, j = items.length - i → i ≤ items.length → R i σ S → forD stay f nx (items.drop i) σ S
  | 0, i, σ, S, hj, hi, hR => by
    have e : i = items.length := by omega
    subst e
    rw [List.drop_length]
    exact ⟨hstay _ _ _ hR, hn _ _ hR⟩
  | j + 1, i, σ, S, hj, hi, hR => by
    have hlt : i < items.length := by omega
    rw [List.drop_eq_getElem_cons hlt]
    exact ⟨hstay _ _ _ hR, hf i σ S hlt hR _ fun σ' S' hR' => for_from R hstay hf hn j (by omega) hlt hR'⟩
theorem for_ind {stay : DS → Prop} {f : D → (St0 → DS → Prop) → St0 → DS → Prop} {nx : St0 → DS → Prop} {items : List D} {σ : St0} {S : DS} (R : Nat → St0 → DS → Prop) (h0 : R 0 σ S) (hstay : ∀ i σ S, R i σ S → stay S)
    (hf : ∀ i σ S (h : i < items.length), R i σ S → ∀ C : St0 → DS → Prop, (∀ σ' S', R (i + 1) σ' S' → C σ' S') → f items[i] C σ S) (hn : ∀ σ S, R items.length σ S → nx σ S) : forD stay f nx items σ S := by
  have := for_from R hstay hf hn items.length (i := 0) rfl (Nat.zero_le _) h0
  simpa using this
theorem q_sFor {Γ : Gam} {D' : DEnds} {σ : St0} {S : DS} {t : XTg} {k : ItK} {es : RVs} {b : RS} : sFor t k es b D' σ S = es σ S (fun ds S1 => ∃ items, itemsOf k ds S1 = some items ∧ itOk k ds ∧
  forD (fun S' => itemsOf k ds S' = some items) (fun d nxt σ1 S2 => bindT S2 t d σ1 fun σ2 => b (D'.lp nxt) σ2 S2) D'.nx items σ S1) (fun x S1 => D'.ex x σ S1) := rfl
/-- a while loop by an invariant -/
theorem whl_ind {D' : DEnds} {σ : St0} {S : DS} {c : RT} {b : RS} (W : Nat → St0 → DS → Prop) (m : Nat) (h0 : W m σ S)
    (h : ∀ m σ S, W m σ S → c σ S (fun k S1 => if k = true then b ⟨fun σ' S' => ∃ m', m' < m ∧ W m' σ' S', D'.rt, D'.nx, fun σ' S' => ∃ m', m' < m ∧ W m' σ' S', D'.ex⟩ σ S1 else D'.nx σ S1) (fun x S1 => D'.ex x σ S1)) : sWhl c b D' σ S :=
  ⟨W, ⟨m, h0⟩, h⟩
/-- a comprehension whose turns change nothing -/
theorem comp_pure {S : DS} {stay : DS → Prop} {f : D → DS → (Option D → DS → Prop) → Prop} {g : D → Option D} (hs : stay S) : ∀ {items : List D} {K : List D → DS → Prop}, (∀ d ∈ items, ∀ C : Option D → DS → Prop, C (g d) S → f d S C) → K (items.filterMap g) S → compD stay f items S K
  | [], K, _, hk => ⟨hs, hk⟩
  | d :: ds, K, hf, hk => by
    refine ⟨hs, hf d (by simp) _ ?_⟩
    refine comp_pure hs (fun e he => hf e (List.mem_cons_of_mem _ he)) ?_
    rw [List.filterMap_cons] at hk
    cases e : g d with
    | none => rw [e] at hk; exact hk
    | some x => rw [e] at hk; exact hk
end DL

set_option linter.all false
set_option autoImplicit false
set_option maxHeartbeats 1000000
namespace DL
open PySem PySem.Spec PyProof.Rows L2 TL
/-! facts of refusals' classes, told by the head -/
def excFB (K : PySem.W.Frag) (c : String) : Bool :=
  decide (PySem.W.findIn K (.ref (He.ga K (Str.ofString c))) "__getattribute__" = some (some (.builtin "BaseException.__getattribute__"))) &&
  (decide (PySem.W.findIn K (.ref (He.ga K (Str.ofString c))) "__getattr__" = some none) &&
  (decide (PySem.W.subIn K (.ref (He.ga K (Str.ofString c))) (.type "BaseException") = some true) &&
  (PySem.W.hasDictIn K (He.ga K (Str.ofString c)) &&
  (decide (PySem.W.findIn K (.ref (He.ga K (Str.ofString c))) "__class__" = some (some (.builtin "object.__class__"))) &&
  (decide (PySem.W.specialIn K (.builtin "object.__class__") "__get__" = some (some (.builtin "getset_descriptor.__get__"))) &&
  (decide (PySem.W.takesIn K (.builtin "object.__class__") = some true) &&
  decide (PySem.W.mroIn K (He.ga K (Str.ofString c)) (.type "object") = some true)))))))
theorem excFB_ok {K : PySem.W.Frag} {c : String} (h : excFB K c = true) : ExcF K (He.ga K (Str.ofString c)) := by
  unfold excFB at h
  simp only [Bool.and_eq_true, decide_eq_true_eq] at h
  obtain ⟨h1, h2, h3, h4, h5, h6, h7, h8⟩ := h
  exact ⟨h1, h2, h3, h4, h5, h6, h7, h8⟩
def exMkB (K : PySem.W.Frag) (c : String) : Bool :=
  PySem.W.keepIn K (.ref (He.ga K (Str.ofString c))) && (decide (PySem.W.typeIn K (.ref (He.ga K (Str.ofString c))) = some (.type "type")) && (decide (PySem.W.subIn K (.ref (He.ga K (Str.ofString c))) (.type "BaseException") = some true) &&
  PySem.W.excIn K (He.ga K (Str.ofString c)) He.veBase "ValueError.__new__"))
theorem exMkB_ok {K : PySem.W.Frag} {c : String} (h : exMkB K c = true) : ExMk K (He.ga K (Str.ofString c)) := by
  unfold exMkB at h
  simp only [Bool.and_eq_true, decide_eq_true_eq] at h
  obtain ⟨h1, h2, h3, h4⟩ := h
  exact ⟨h1, h2, h3, _, _, _, _, PySem.F.excBase_ValueError, h4⟩
def exPairB (K : PySem.W.Frag) (c T : String) : Bool := decide (PySem.W.kitOne K (.ref (He.ga K (Str.ofString c))) (.ref (He.ga K (Str.ofString T))) = some (subEx c T)) && decide (PySem.W.exmOne K (.ref (He.ga K (Str.ofString c))) (.ref (He.ga K (Str.ofString T))) = some (subEx c T))
def exB0 (K : PySem.W.Frag) : Bool := exNames.all fun c => excFB K c && ((c == "Fault" || exMkB K c) && (exAll.all (fun T => exPairB K c T) && decide (PySem.W.kitOne K (.ref (He.ga K (Str.ofString c))) (.type "ValueError") = some true)))
/-- a written dict of texts, by the head's look -/
def gdVB (K : PySem.W.Frag) (x : String) (l : List (Tx × Tx)) : Bool := l.all fun q => match PySem.W.nsIn K (He.ga K (Str.ofString x)) (tS q.1) with
  | some (some (.str y _)) => decide (y = tS q.2) && okTx q.2
  | _ => false
theorem keys_none {P : Params} {x : Str} : ∀ {l : List DictEntry} {ks : List Str}, l.map He.keyOf = He.keysIn P ks → x ∉ ks → l.find? (fun e => e.key.isStr x) = none ∧ l.any (fun e => e.refKey) = false
  | [], _, _, _ => ⟨rfl, rfl⟩
  | e :: r, [], h, _ => by cases h
  | e :: r, k :: ks, h, hx => by
    have h1 : He.keyOf e :: r.map He.keyOf = some (k, PyData.keyHash P k) :: He.keysIn P ks := h
    injection h1 with h2 h3
    obtain ⟨i1, i2⟩ := keys_none h3 fun z => hx (List.mem_cons_of_mem _ z)
    unfold He.keyOf at h2
    split at h2
    · rename_i y t q
      have h4 := (Prod.mk.inj (Option.some.inj h2)).1
      subst h4
      have hne : (y == x) = false := beq_eq_false_iff_ne.mpr fun z => hx (by rw [z]; simp)
      have e1 : e.key.isStr x = false := by rw [q]; exact hne
      have e2 : e.refKey = false := by unfold DictEntry.refKey; rw [q]
      refine ⟨?_, ?_⟩
      · rw [List.find?_cons, e1]; exact i1
      · rw [List.any_cons, e2, i2]; rfl
    · cases h2
theorem nsIn_none {K : PySem.W.Frag} {w : World} {a : Addr} {ks : List Str} {x : Str} (h : He.dicW K a = some (He.keysIn w.params ks)) (hx : x ∉ ks) : PySem.W.nsIn K a x = some none := by
  unfold He.dicW at h
  unfold PySem.W.nsIn
  split at h
  · rename_i c es n sl e
    rw [e]
    split at h
    · obtain ⟨h1, h2⟩ := keys_none (Option.some.inj h) hx
      simp only [h1, h2]
      rfl
    · cases h
  · cases h
theorem gd_ok {K : PySem.W.Frag} {w : World} {mg : Str → Option Value} {x : String} {l : List (Tx × Tx)} (hm : mg (Str.ofString x) = some (.ref (He.ga K (Str.ofString x)))) (hd : He.dicW K (He.ga K (Str.ofString x)) = some (He.keysIn w.params (l.map fun q => tS q.1))) (hv : gdVB K x l = true) :
    ∃ a es n, mg (Str.ofString x) = some (.ref a) ∧ KDict K w a es n ∧ (∀ t, lookG l t = none → PySem.W.nsIn K a (tS t) = some none) ∧ (∀ t z, lookG l t = some z → TxOk z ∧ ∃ u, PySem.W.nsIn K a (tS t) = some (some u) ∧ RelV (.str (tS z)) u) := by
  obtain ⟨es, n, hK⟩ := He.dicW_ok hd
  refine ⟨_, es, n, hm, hK, fun t ht => ?_, fun t z ht => ?_⟩
  · refine nsIn_none hd fun hmem => ?_
    obtain ⟨q, hq, e⟩ := List.mem_map.mp hmem
    unfold lookG at ht
    rw [Option.map_eq_none_iff, List.find?_eq_none] at ht
    have := ht q hq
    rw [decide_eq_true_eq] at this
    exact this (tS_inj e)
  · unfold lookG at ht
    rw [Option.map_eq_some_iff] at ht
    obtain ⟨q, h1, h2⟩ := ht
    have hq := List.mem_of_find?_eq_some h1
    have e1 := List.find?_some h1
    rw [decide_eq_true_eq] at e1
    subst e1 h2
    have := List.all_eq_true.mp hv q hq
    split at this
    · rename_i y tk e2
      rw [Bool.and_eq_true, decide_eq_true_eq] at this
      refine ⟨okTx_ok this.2, _, e2, ?_⟩
      rw [this.1]
      exact ⟨_, rfl⟩
    · cases this
end DL

set_option linter.all false
set_option autoImplicit false
set_option maxHeartbeats 1000000
namespace DL
open PySem PySem.Spec PyProof.Rows L2 TL
/-- a promise that is kept, at a level -/
def Kept (P : Program) (w : World) (K : PySem.W.Frag) (mg : Str → Option Value) (base : Heap) (k : Nat) (f : String) (sp : DSp) : Prop :=
  ∃ fa, mg (Str.ofString f) = some (.ref fa) ∧ PySem.W.keepIn K (.ref fa) = true ∧ Fn4 P w K mg base k fa sp
theorem Kept.mono {P : Program} {w : World} {K : PySem.W.Frag} {mg : Str → Option Value} {base : Heap} {j k : Nat} {f : String} {sp : DSp} (h : Kept P w K mg base j f sp) (hj : j ≤ k) : Kept P w K mg base k f sp := by
  obtain ⟨fa, h1, h2, fd, ps, hb, hF⟩ := h
  exact ⟨fa, h1, h2, fd, ps, hb, hF.mono hj⟩
/-- what all of a law's promises share -/
structure BaseOk (P : Program) (w : World) (K : PySem.W.Frag) (mg : Str → Option Value) (base : Heap) (gv : String → Option D) (gd : String → Option (List (Tx × Tx))) : Prop where
  gv : ∀ x d, gv x = some d → ∃ u v, mg (Str.ofString x) = some u ∧ RelV v u ∧ ∀ F, RepV K F d v
  bi : ∀ n ∈ biNames, mg (Str.ofString n) = none
  noV : mg (Str.ofString "ValueError") = none
  glob : ∀ T ∈ exAll, mg (Str.ofString T) = some (.ref (He.ga K (Str.ofString T)))
  ex0 : exB0 K = true
  gd : ∀ x l, gd x = some l → ∃ a es n, mg (Str.ofString x) = some (.ref a) ∧ KDict K w a es n ∧ (∀ t, lookG l t = none → PySem.W.nsIn K a (tS t) = some none) ∧
    (∀ t z, lookG l t = some z → TxOk z ∧ ∃ u, PySem.W.nsIn K a (tS t) = some (some u) ∧ RelV (.str (tS z)) u)
/-- promises of functions alone -/
def GmF (gv : String → Option D) (gd : String → Option (List (Tx × Tx))) (l : List (String × DSp)) : Gam := ⟨fun n => l.lookup n, gv, fun _ _ => none, fun _ => none, fun _ _ => false, gd, fun _ _ => false⟩
theorem lookup_mem {α : Type} {n : String} {a : α} : ∀ {l : List (String × α)}, l.lookup n = some a → (n, a) ∈ l
  | [], h => by cases h
  | (m, b) :: r, h => by
    by_cases e : n = m
    · subst e
      simp only [List.lookup_cons, beq_self_eq_true] at h
      cases h
      exact List.mem_cons_self
    · have e2 : (n == m) = false := beq_eq_false_iff_ne.mpr e
      rw [List.lookup_cons, e2] at h
      exact List.mem_cons_of_mem _ (lookup_mem h)
section
variable {P : Program} {w : World} {K : PySem.W.Frag} {mg : Str → Option Value} {base : Heap} {gv : String → Option D} {gd : String → Option (List (Tx × Tx))}
theorem BaseOk.gam (B : BaseOk P w K mg base gv gd) {l : List (String × DSp)} {k : Nat} (hl : ∀ q ∈ l, Kept P w K mg base k q.1 q.2) : GamOk P w K mg base (GmF gv gd l) k where
  fn := fun f sp h => hl (f, sp) (lookup_mem h)
  gv := B.gv
  mt := fun _ _ _ h => by cases h
  ini := fun _ _ h => by cases h
  fl := fun _ _ h => by cases h
  bi := B.bi
  ex := fun c hc => by
    have h := List.all_eq_true.mp B.ex0 c hc
    simp only [Bool.and_eq_true, List.all_eq_true] at h
    refine ⟨excFB_ok h.1, fun T hT => ?_⟩
    have h2 := h.2.2.1 T hT
    unfold exPairB at h2
    simp only [Bool.and_eq_true, decide_eq_true_eq] at h2
    exact ⟨B.glob T hT, h2.1, h2.2⟩
  rz := fun c hc hn => by
    have h := List.all_eq_true.mp B.ex0 c hc
    simp only [Bool.and_eq_true, Bool.or_eq_true, beq_iff_eq] at h
    rcases h.2.1 with e | e
    · exact absurd e hn
    · exact exMkB_ok e
  exV := fun c hc => by
    have h := List.all_eq_true.mp B.ex0 c hc
    simp only [Bool.and_eq_true, decide_eq_true_eq] at h
    exact h.2.2.2
  noV := B.noV
  fx := fun _ _ h => by cases h
  gd := B.gd
/-- a def keeps its promise -/
theorem kept {d : He.DefD} {f : String} {N ps : List Str} {xs : List XS} {sp : DSp} {l : List (String × DSp)} {k : Nat} (B : BaseOk P w K mg base gv gd) (hd : d.at_ = (Str.ofString f, none)) (h0 : d.dfl = [] ∧ d.kwd = []) (F : ∃ fd, FunD K d.name d.qual d.params d.body d.scope (d.dvs K) (d.kws K) (He.fAd K d.at_) fd)
    (hm : mg (Str.ofString f) = some (.ref (He.ga K (Str.ofString f)))) (hc : (C8.scC N ps d.scope && chkSs N true d.scope xs d.body) = true) (hp : ∀ (kV doc pm : Value) (an : Option Addr) (cdv ct : Value) (us : List Value), us.length = ps.length → bindArgs (PySem.W.fnOf d.name d.qual d.params d.body d.scope .none kV doc pm an cdv ct) ⟨us, []⟩ = pure (ps.zip us))
    (hl : ∀ q ∈ l, Kept P w K mg base k q.1 q.2) (hB : BodyOk (GmF gv gd l) xs ps.length N.length sp) : Kept P w K mg base (k + 1) f sp := by
  obtain ⟨fd, F⟩ := F
  have e1 : d.dvs K = [] := by unfold He.DefD.dvs; rw [h0.1]; rfl
  have e2 : d.kws K = [] := by unfold He.DefD.kws; rw [h0.2]; rfl
  rw [e1, e2] at F
  have e3 : He.fAd K d.at_ = He.ga K (Str.ofString f) := by rw [hd]; rfl
  rw [e3] at F
  rw [Bool.and_eq_true] at hc
  exact ⟨_, hm, F.kp, fd, ps, F.bindsN hp, def_ok F (C8.fnScope_by hc.1) hc.2 (B.gam hl) hB⟩
/-- a law: nothing leaves it -/
def liftSp0 (K : PySem.W.Frag) (sp : DSp) : Sp := fun vs H Q _ => liftSp K sp vs H Q fun _ _ _ => False
theorem def_ok0 {x qual : Str} {params : Arguments} {body : List Stmt} {scope : Scope} {kws : List (Str × V)} {f : Addr} {fd : FuncData} {N ps : List Str} {k : Nat} {sp : DSp} {Γ : Gam} {xs : List XS} (F : FunD K x qual params body scope [] kws f fd) (S : FnScope N ps scope) (hc : chkSs N true scope xs body = true)
    (G : GamOk P w K mg base Γ k) (B : BodyOk Γ xs ps.length N.length sp) : FnOk P w K mg base CX0 (k + 1) f fd ps (liftSp0 K sp) := by
  refine F.ok S (fun vs H Q E h => ?_) (fun cdv A outer s H vs Q E hr h => ⟨tZ K W0 (rdSs Γ xs), PSs.nox ?_, ?_⟩)
  · obtain ⟨Z, S0, ds, QD, ED, s, r, h, g, ge⟩ := h
    rw [r.length]
    exact (B ds S0 QD ED h).1
  · exact sSs xs (Γ := Γ) (k := k) (N := N) (calm := true) (sc := scope) ⟨G, S.nd, rfl, rfl, by have := hr.un; show A.units + 3 + 200 < cLine; have h2 : A.units + 3 + 16 * k + 200 < cLine := this; omega, fun _ => ⟨rfl, hr⟩⟩ takes0
      ⟨fun _ _ => .inl rfl, fun _ => ⟨rfl, rfl, PassesOwn.never⟩⟩ hc
  · obtain ⟨Z, S0, ds, QD, ED, s, r, h, g, ge⟩ := h
    refine ⟨Z, st0 ds N.length, S0, bodyEnds QD ED, s, sts0 r, (B ds S0 QD ED h).2, ?_⟩
    exact ⟨fun σV' H' σ' S' e s' st' q => g.re .non H' .non S' e s' (by simp only [RepV]) q, g.re, fun _ _ _ _ _ _ _ z => z.elim, fun _ _ _ _ _ _ _ z => z.elim, fun x σV' H' σ' S' cls d e s' st' rx q => ge.re x S' H' cls d e s' rx q⟩
/-- .. as its end wants it -/
theorem law_kept {d : He.DefD} {f x : String} {N : List Str} {xs : List XS} {sp : DSp} {l : List (String × DSp)} {k : Nat} (d0 : d.at_ = (Str.ofString f, none)) (h0 : d.dfl = [] ∧ d.kwd = []) (F : ∃ fd, FunD K d.name d.qual d.params d.body d.scope (d.dvs K) (d.kws K) (He.fAd K d.at_) fd)
    (hc : (C8.scC N [Str.ofString x] d.scope && chkSs N true d.scope xs d.body) = true)
    (hp : ∀ (kV doc pm : Value) (an : Option Addr) (cdv ct : Value) (us : List Value), us.length = ([Str.ofString x] : List Str).length → bindArgs (PySem.W.fnOf d.name d.qual d.params d.body d.scope .none kV doc pm an cdv ct) ⟨us, []⟩ = pure (([Str.ofString x] : List Str).zip us))
    (hsp : ∀ (ns : List Int) (S : DS) (Q : QD) (E : QE), (∀ S', Q (.bl true) S') → sp [.scr ns] S Q E) :
    ∃ fd : FuncData, (∀ (s : Shared) (v : Value), BindsTo s fd ⟨[v], []⟩ [(Str.ofString x, v)]) ∧ (∀ (H : Hp) (a : Addr) (ns : List Int), SqL K H a (ns.map V.int) → liftSp0 K sp [.ref a] H (fun v _ => v = .bl true) fun _ _ _ => False) ∧
      ∀ (P : Program) (w : World) (mg : Str → Option Value) (base : Heap) (gv : String → Option D) (gd : String → Option (List (Tx × Tx))), BaseOk P w K mg base gv gd → (∀ q ∈ l, Kept P w K mg base k q.1 q.2) → BodyOk (GmF gv gd l) xs 1 N.length sp → FnOk P w K mg base CX0 (k + 1) (He.ga K (Str.ofString f)) fd [Str.ofString x] (liftSp0 K sp) := by
  obtain ⟨fd, F⟩ := F
  have e1 : d.dvs K = [] := by unfold He.DefD.dvs; rw [h0.1]; rfl
  have e2 : d.kws K = [] := by unfold He.DefD.kws; rw [h0.2]; rfl
  rw [e1, e2] at F
  have e3 : He.fAd K d.at_ = He.ga K (Str.ofString f) := by rw [d0]; rfl
  rw [e3] at F
  rw [Bool.and_eq_true] at hc
  refine ⟨fd, fun s v => FunD.bindsA (ps := [Str.ofString x]) F hp s [v] rfl, fun H a ns hS => ?_, fun P w mg base gv gd B hl hB => def_ok0 F (C8.fnScope_by hc.1) hc.2 (B.gam hl) hB⟩
  have e : fz (fun _ => none) H (fun _ => none) = H := rfl
  refine ⟨fun _ => none, fun _ => none, [.scr ns], fun d _ => d = .bl true, fun _ _ => False, ⟨fun _ _ z => (nomatch z), fun _ _ z => (nomatch z), fun _ _ z => (nomatch z)⟩, RepL.one ?_, hsp ns _ _ _ fun _ => rfl, fun v H' d S' _ _ r q => ?_, fun x S' H' cls d _ _ _ z => z.elim⟩
  · simp only [RepV]
    exact ⟨a, rfl, hS⟩
  · subst q
    simpa only [RepV] using r
end
end DL

set_option linter.all false
set_option autoImplicit false
namespace K01
open PySem PySem.Spec PyProof.Rows L2 TL DL
def w_0 : Tx := [32, 33, 34, 35, 36, 38, 39, 40, 41, 42, 43, 44, 45, 46, 47, 48, 49, 50, 51, 52] ++ [53, 54, 55, 56, 57, 58, 59, 60, 61, 62, 63, 64, 65, 66, 67, 68, 69, 70, 71, 72] ++ [73, 74, 75, 76, 77, 78, 79, 80, 81, 82, 83, 84, 85, 86, 87, 88, 89, 90, 91, 92] ++ [93, 94, 95, 96, 97, 98, 99, 100, 101, 102, 103, 104, 105, 106, 107, 108, 109, 110, 111, 112] ++ [113, 114, 115, 116, 117, 118, 119, 120, 121, 122, 123, 124, 125, 126]
/- 19 -/
def x_is_sign : List XS := [.ret (some (.and [.chain .le .lt (.cI 32) (.bi (.ord) [.var 0]) (.cI 127), .cmp .ne (.bi (.ord) [.var 0]) (.cI 37)]))]
def n_is_sign : List Str := ["sign"]
def p_is_sign : List Str := ["sign"]
/- 20 -/
def x_is_text : List XS := [.ite (.or [.not (.isin (.var 0) "str"), .cmp .gt (.bi (.len) [.var 0]) (.glob "MOST_TEXT")]) [.ret (some (.cB false))] [],
  .ret (some (.bi (.all) [.comp false (.name 1) .seq [.var 0] (.or [.cmp .eq (.var 1) (.cS [10]), .call "is_sign" [.var 1]]) none]))]
def n_is_text : List Str := ["thing", "sign"]
def p_is_text : List Str := ["thing"]
/- 21 -/
def x_is_single : List XS := [.ite (.or [.isin (.var 0) "bool", .call "is_text" [.var 0]]) [.ret (some (.cB true))] [],
  .ret (some (.and [.isin (.var 0) "int", .cmp .lt (.bi (.abs) [.var 0]) (.cI 1000000000)]))]
def n_is_single : List Str := ["thing"]
def p_is_single : List Str := ["thing"]
/- 22 -/
def x_is_value : List XS := [.ite (.isin (.var 0) "list") [.ret (some (.and [.cmp .le (.bi (.len) [.var 0]) (.glob "MOST_ITEMS"), .bi (.all) [.comp false (.name 1) .seq [.var 0] (.call "is_single" [.var 1]) none]]))] [],
  .ret (some (.call "is_single" [.var 0]))]
def n_is_value : List Str := ["thing", "one"]
def p_is_value : List Str := ["thing"]
/- 23 -/
def x_look_value : List XS := [.ite (.not (.call "is_value" [.var 0])) [.rais "BadValue" [.cS [110, 111, 32, 118, 97, 108, 117, 101]]] []]
def n_look_value : List Str := ["value"]
def p_look_value : List Str := ["value"]
/- 24 -/
def x_kind : List XS := [.ex (.call "look_value" [.var 0]),
  .ret (some (.call "kind_of" [.var 0]))]
def n_kind : List Str := ["value"]
def p_kind : List Str := ["value"]
/- 25 -/
def x_kind_of : List XS := [.ite (.isin (.var 0) "bool") [.ret (some (.cS [116, 114, 117, 116, 104]))] [],
  .ite (.isin (.var 0) "int") [.ret (some (.cS [110, 117, 109, 98, 101, 114]))] [],
  .ret (some (.ite (.isin (.var 0) "str") (.cS [116, 101, 120, 116]) (.cS [108, 105, 115, 116])))]
def n_kind_of : List Str := ["value"]
def p_kind_of : List Str := ["value"]
/- 26 -/
def x_quoted : List XS := [.asg (.name 1) (.lst true []),
  .forr (.name 2) .seq [.var 0] [.ite (.cmp .eq (.var 2) (.cS [10])) [.ex (.lm .append (.var 1) [.cS [92, 110]])] [.ex (.lm .append (.var 1) [.ite (.cmp .inn (.var 2) (.cS [34, 92])) (.bin (.add false) (.cS [92]) (.var 2)) (.var 2)])]],
  .ret (some (.bin (.add false) (.bin (.add false) (.cS [34]) (.sm .join (.cS []) [.var 1])) (.cS [34])))]
def n_quoted : List Str := ["text", "found", "sign"]
def p_quoted : List Str := ["text"]
/- 27 -/
def x_value_text : List XS := [.ex (.call "look_value" [.var 0]),
  .ret (some (.call "text_of" [.var 0]))]
def n_value_text : List Str := ["value"]
def p_value_text : List Str := ["value"]
/- 28 -/
def x_text_of : List XS := [.ite (.isin (.var 0) "bool") [.ret (some (.ite (.var 0) (.cS [121, 101, 115]) (.cS [110, 111])))] [],
  .ite (.isin (.var 0) "int") [.ret (some (.bi (.str) [.var 0]))] [],
  .ite (.isin (.var 0) "str") [.ret (some (.call "quoted" [.var 0]))] [],
  .ret (some (.bin (.add false) (.bin (.add false) (.cS [91]) (.sm .join (.cS [44, 32]) [.comp false (.name 1) .seq [.var 0] (.call "text_of" [.var 1]) none])) (.cS [93])))]
def n_text_of : List Str := ["value", "one"]
def p_text_of : List Str := ["value"]
/- 29 -/
def x_number_at : List XS := [.asg (.name 2) (.ite (.cmp .eq (.sl false (.var 0) (some (.var 1)) (some (.bin (.add false) (.var 1) (.cI 1)))) (.cS [45])) (.bin (.add false) (.var 1) (.cI 1)) (.var 1)),
  .asg (.name 3) (.var 2),
  .whl (.and [.cmp .ne (.sl false (.var 0) (some (.var 2)) (some (.bin (.add false) (.var 2) (.cI 1)))) (.cS []), .cmp .inn (.idx (.var 0) (.var 2)) (.glob "FIGURES")]) [.asg (.name 2) (.bin (.add false) (.var 2) (.cI 1))],
  .asg (.name 4) (.sl false (.var 0) (some (.var 3)) (some (.var 2))),
  .ite (.or [.not (.chain .le .le (.cI 1) (.bi (.len) [.var 4]) (.glob "MOST_FIGURES")), .and [.cmp .eq (.idx (.var 4) (.cI 0)) (.cS [48]), .or [.cmp .gt (.bi (.len) [.var 4]) (.cI 1), .cmp .gt (.var 3) (.var 1)]]]) [.ret (some (.cN))] [],
  .ret (some (.tup [.bi (.int) [.sl false (.var 0) (some (.var 1)) (some (.var 2))], .var 2]))]
def n_number_at : List Str := ["text", "at", "end", "first", "figures"]
def p_number_at : List Str := ["text", "at"]
/- 30 -/
def x_text_at : List XS := [.asg (.name 2) (.lst true []),
  .asg (.name 3) (.bin (.add false) (.var 1) (.cI 1)),
  .whl (.and [.cmp .lt (.var 3) (.bi (.len) [.var 0]), .cmp .ne (.idx (.var 0) (.var 3)) (.cS [34])]) [.ite (.cmp .eq (.idx (.var 0) (.var 3)) (.cS [92])) [.ite (.gIn true (.sl false (.var 0) (some (.bin (.add false) (.var 3) (.cI 1))) (some (.bin (.add false) (.var 3) (.cI 2)))) "ESCAPES") [.ret (some (.cN))] [],
  .ex (.lm .append (.var 2) [.gIx "ESCAPES" (.idx (.var 0) (.bin (.add false) (.var 3) (.cI 1)))]),
  .asg (.name 3) (.bin (.add false) (.var 3) (.cI 2))] [.ex (.lm .append (.var 2) [.idx (.var 0) (.var 3)]),
  .asg (.name 3) (.bin (.add false) (.var 3) (.cI 1))]],
  .ite (.or [.cmp .ge (.var 3) (.bi (.len) [.var 0]), .cmp .gt (.bi (.len) [.var 2]) (.glob "MOST_TEXT")]) [.ret (some (.cN))] [],
  .ret (some (.tup [.sm .join (.cS []) [.var 2], .bin (.add false) (.var 3) (.cI 1)]))]
def n_text_at : List Str := ["text", "at", "found", "k"]
def p_text_at : List Str := ["text", "at"]
/- 31 -/
def x_single_at : List XS := [.ite (.cmp .eq (.sl false (.var 0) (some (.var 1)) (some (.bin (.add false) (.var 1) (.cI 1)))) (.cS [34])) [.ret (some (.call "text_at" [.var 0, .var 1]))] [],
  .forr (.tup [2, 3]) .seq [.tup [.tup [.cS [121, 101, 115], .cB true], .tup [.cS [110, 111], .cB false]]] [.ite (.sm .starts2 (.var 0) [.var 2, .var 1]) [.ret (some (.tup [.var 3, .bin (.add false) (.var 1) (.bi (.len) [.var 2])]))] []],
  .ret (some (.call "number_at" [.var 0, .var 1]))]
def n_single_at : List Str := ["text", "at", "word", "truth"]
def p_single_at : List Str := ["text", "at"]
/- 32 -/
def x_blanks_from : List XS := [.whl (.cmp .eq (.sl false (.var 0) (some (.var 1)) (some (.bin (.add false) (.var 1) (.cI 1)))) (.cS [32])) [.asg (.name 1) (.bin (.add false) (.var 1) (.cI 1))],
  .ret (some (.var 1))]
def n_blanks_from : List Str := ["text", "at"]
def p_blanks_from : List Str := ["text", "at"]
/- 33 -/
def x_value_at : List XS := [.ite (.cmp .ne (.sl false (.var 0) (some (.var 1)) (some (.bin (.add false) (.var 1) (.cI 1)))) (.cS [91])) [.ret (some (.call "single_at" [.var 0, .var 1]))] [],
  .asg (.name 2) (.lst true []),
  .asg (.name 1) (.call "blanks_from" [.var 0, .bin (.add false) (.var 1) (.cI 1)]),
  .ite (.cmp .eq (.sl false (.var 0) (some (.var 1)) (some (.bin (.add false) (.var 1) (.cI 1)))) (.cS [93])) [.ret (some (.tup [.var 2, .bin (.add false) (.var 1) (.cI 1)]))] [],
  .whl (.cB true) [.asg (.name 3) (.call "single_at" [.var 0, .var 1]),
  .ite (.or [.isN false (.var 3), .cmp .eq (.bi (.len) [.var 2]) (.glob "MOST_ITEMS")]) [.ret (some (.cN))] [],
  .ex (.lm .append (.var 2) [.idx (.var 3) (.cI 0)]),
  .asg (.name 1) (.call "blanks_from" [.var 0, .idx (.var 3) (.cI 1)]),
  .ite (.cmp .eq (.sl false (.var 0) (some (.var 1)) (some (.bin (.add false) (.var 1) (.cI 1)))) (.cS [93])) [.ret (some (.tup [.var 2, .bin (.add false) (.var 1) (.cI 1)]))] [],
  .ite (.cmp .ne (.sl false (.var 0) (some (.var 1)) (some (.bin (.add false) (.var 1) (.cI 1)))) (.cS [44])) [.ret (some (.cN))] [],
  .asg (.name 1) (.call "blanks_from" [.var 0, .bin (.add false) (.var 1) (.cI 1)])]]
def n_value_at : List Str := ["text", "at", "items", "one"]
def p_value_at : List Str := ["text", "at"]
/- 34 -/
def x_read_value : List XS := [.asg (.name 1) (.ite (.bi (.all) [.comp false (.name 2) .seq [.var 0] (.call "is_sign" [.var 2]) none]) (.call "value_at" [.var 0, .cI 0]) (.cN)),
  .ite (.or [.isN false (.var 1), .cmp .ne (.idx (.var 1) (.cI 1)) (.bi (.len) [.var 0])]) [.rais "BadValue" [.cS [119, 114, 105, 116, 101, 115, 32, 110, 111, 32, 118, 97, 108, 117, 101]]] [],
  .ret (some (.idx (.var 1) (.cI 0)))]
def n_read_value : List Str := ["text", "found", "sign"]
def p_read_value : List Str := ["text"]
/- 36 -/
def x__law_cell : List XS := [.ite (.var 0) [.ret (some (.idx (.var 0) (.bin (.mod) (.var 1) (.bi (.len) [.var 0]))))] [],
  .ret (some (.cI 0))]
def n__law_cell : List Str := ["_law_script", "_law_k"]
def p__law_cell : List Str := ["_law_script", "_law_k"]
/- 37 -/
def x__law_mix : List XS := [.asg (.name 2) (.bin (.mod) (.bin (.add false) (.call "_law_cell" [.var 0, .var 1]) (.bin (.mul false) (.cI 104729) (.bin (.add false) (.var 1) (.cI 1)))) (.cI 4294967291)),
  .asg (.name 2) (.bin (.mod) (.bin (.pow) (.var 2) (.cI 5)) (.cI 4294967279)),
  .ret (some (.bin (.mod) (.bin (.add false) (.bin (.mul false) (.bin (.fdiv) (.var 2) (.cI 64)) (.cI 69621)) (.var 2)) (.cI 4294967231)))]
def n__law_mix : List Str := ["_law_script", "_law_k", "_law_number"]
def p__law_mix : List Str := ["_law_script", "_law_k"]
/- 38 -/
def x__law_draw : List XS := [.ex (.lm .append (.var 1) [.cI 0]),
  .ret (some (.bin (.mod) (.bin (.fdiv) (.call "_law_mix" [.var 0, .bi (.len) [.var 1]]) (.cI 8)) (.var 2)))]
def n__law_draw : List Str := ["_law_script", "_law_town", "_law_many"]
def p__law_draw : List Str := ["_law_script", "_law_town", "_law_many"]
/- 39 -/
def x__law_pick : List XS := [.ret (some (.idx (.var 2) (.call "_law_draw" [.var 0, .var 1, .bi (.len) [.var 2]])))]
def n__law_pick : List Str := ["_law_script", "_law_town", "_law_some"]
def p__law_pick : List Str := ["_law_script", "_law_town", "_law_some"]
/- 40 -/
def x__law_refusal : List XS := [.ite (.isN false (.var 0)) [.ret (some (.tup [.cS [111, 107]]))] [],
  .ite (.isex (.var 0) "Fault") [.ret (some (.ite (.isex (.var 0) "SettingError") (.tup [.cS [102, 97, 117, 108, 116], .xfld (.var 0) "row", .xfld (.var 0) "word"]) (.tup [.cS [119, 114, 111, 110, 103]])))] [],
  .asg (.name 1) (.lst true [.isex (.var 0) "BadValue", .isex (.var 0) "BadPath", .isex (.var 0) "NoPath"]),
  .asg (.name 1) (.bin (.add true) (.var 1) (.lst false [.isex (.var 0) "Twice", .isex (.var 0) "WrongKind", .isex (.var 0) "BadWish"])),
  .asg (.name 1) (.bin (.add true) (.var 1) (.lst false [.isex (.var 0) "Ring", .isex (.var 0) "BadFill", .isex (.var 0) "BadDeed"])),
  .ex (.lm .append (.var 1) [.isex (.var 0) "Nothing"]),
  .ite (.or [.cmp .ne (.lm .count (.var 1) [.cB true]) (.cI 1), .not (.isex (.var 0) "ValueError")]) [.ret (some (.tup [.cS [119, 114, 111, 110, 103]]))] [],
  .asg (.name 2) (.lst false [.cS [118, 97, 108, 117, 101], .cS [112, 97, 116, 104], .cS [110, 111, 32, 112, 97, 116, 104], .cS [116, 119, 105, 99, 101], .cS [107, 105, 110, 100], .cS [119, 105, 115, 104], .cS [114, 105, 110, 103], .cS [102, 105, 108, 108], .cS [100, 101, 101, 100], .cS [110, 111, 116, 104, 105, 110, 103]]),
  .ret (some (.tup [.cS [114, 101, 102, 117, 115, 101, 100], .idx (.var 2) (.lm .index (.var 1) [.cB true])]))]
def n__law_refusal : List Str := ["_law_caught", "_law_kinds", "_law_words"]
def p__law_refusal : List Str := ["_law_caught"]
/- 41 -/
def x__law_sign : List XS := [.asg (.name 2) (.bin (.add false) (.cI 32) (.call "_law_draw" [.var 0, .var 1, .cI 94])),
  .asg (.name 3) (.cS w_0),
  .ret (some (.call "_law_pick" [.var 0, .var 1, .lst false [.cS [97], .cS [98], .cS [34], .cS [92], .cS [35], .cS [91], .cS [93], .cS [61], .cS [32], .idx (.var 3) (.bin (.sub) (.var 2) (.cI 32))]]))]
def n__law_sign : List Str := ["_law_script", "_law_town", "_law_code", "_law_signs"]
def p__law_sign : List Str := ["_law_script", "_law_town"]
/- 42 -/
def x__law_single : List XS := [.asg (.name 2) (.call "_law_draw" [.var 0, .var 1, .cI 4]),
  .ite (.cmp .eq (.var 2) (.cI 0)) [.ret (some (.call "_law_pick" [.var 0, .var 1, .lst false [.cI 0, .cI 1, .bin (.sub) (.cI 0) (.cI 1), .cI 999999999, .bin (.sub) (.cI 0) (.cI 999999999), .bin (.sub) (.call "_law_draw" [.var 0, .var 1, .cI 5000]) (.cI 2500)]]))] [],
  .ite (.cmp .eq (.var 2) (.cI 1)) [.ret (some (.cmp .eq (.call "_law_draw" [.var 0, .var 1, .cI 2]) (.cI 0)))] [],
  .asg (.name 3) (.call "_law_draw" [.var 0, .var 1, .call "_law_pick" [.var 0, .var 1, .lst false [.cI 3, .cI 9, .cI 9, .cI 30]]]),
  .asg (.name 4) (.comp true (.name 5) .range1 [.var 3] (.call "_law_sign" [.var 0, .var 1]) none),
  .ite (.cmp .eq (.call "_law_draw" [.var 0, .var 1, .cI 4]) (.cI 0)) [.ex (.lm .insert (.var 4) [.call "_law_draw" [.var 0, .var 1, .bin (.add false) (.bi (.len) [.var 4]) (.cI 1)], .cS [10]])] [],
  .ret (some (.sm .join (.cS []) [.var 4]))]
def n__law_single : List Str := ["_law_script", "_law_town", "_law_sort_of", "_law_many", "_law_found", "_law_k"]
def p__law_single : List Str := ["_law_script", "_law_town"]
/- 43 -/
def x__law_value : List XS := [.ite (.cmp .gt (.call "_law_draw" [.var 0, .var 1, .cI 4]) (.cI 0)) [.ret (some (.call "_law_single" [.var 0, .var 1]))] [],
  .ret (some (.comp false (.name 2) .range1 [.call "_law_draw" [.var 0, .var 1, .call "_law_pick" [.var 0, .var 1, .lst false [.cI 3, .cI 3, .cI 21]]]] (.call "_law_single" [.var 0, .var 1]) none))]
def n__law_value : List Str := ["_law_script", "_law_town", "_law_k"]
def p__law_value : List Str := ["_law_script", "_law_town"]
/- 44 -/
def x__law_written : List XS := [.ite (.isin (.var 0) "bool") [.ret (some (.idx (.lst false [.cS [110, 111], .cS [121, 101, 115]]) (.bi (.int) [.var 0])))] [],
  .ite (.isin (.var 0) "int") [.ret (some (.bi (.str) [.var 0]))] [],
  .ite (.isin (.var 0) "list") [.ret (some (.bin (.add false) (.bin (.add false) (.cS [91]) (.sm .join (.cS [44, 32]) [.comp false (.name 1) .seq [.var 0] (.call "_law_written" [.var 1]) none])) (.cS [93])))] [],
  .ret (some (.bin (.add false) (.qadd [34] (.rep (.rep (.rep (.var 0) 92 [92, 92]) 34 [92, 34]) 10 [92, 110])) (.cS [34])))]
def n__law_written : List Str := ["_law_value_here", "_law_one"]
def p__law_written : List Str := ["_law_value_here"]
/- 45 -/
def x__law_same : List XS := [.ite (.and [.isin (.var 0) "list", .isin (.var 1) "list"]) [.ret (some (.and [.cmp .eq (.bi (.len) [.var 0]) (.bi (.len) [.var 1]), .bi (.all) [.comp false (.name 2) .range1 [.bi (.len) [.var 0]] (.call "_law_same" [.idx (.var 0) (.var 2), .idx (.var 1) (.var 2)]) none]]))] [],
  .ite (.cmp .ne (.isin (.var 0) "bool") (.isin (.var 1) "bool")) [.ret (some (.cB false))] [],
  .ret (some (.and [.cmp .eq (.var 0) (.var 1), .cmp .eq (.isin (.var 0) "list") (.isin (.var 1) "list")]))]
def n__law_same : List Str := ["_law_one", "_law_other", "_law_k"]
def p__law_same : List Str := ["_law_one", "_law_other"]
/- 46 -/
def x__law_take : List XS := [.ite (.cmp .eq (.sl false (.var 0) none (some (.cI 1))) (.cS [91])) [.ret (some (.call "_law_take_list" [.sm .lstrip (.sl false (.var 0) (some (.cI 1)) none) [.cS [32]]]))] [],
  .ite (.cmp .eq (.sl false (.var 0) none (some (.cI 1))) (.cS [34])) [.asg (.name 4) (.lst true []),
  .asg (.name 5) (.sl false (.var 0) (some (.cI 1)) none),
  .whl (.and [.cmp .ne (.var 5) (.cS []), .cmp .ne (.idx (.var 5) (.cI 0)) (.cS [34])]) [.ite (.cmp .eq (.idx (.var 5) (.cI 0)) (.cS [92])) [.ite (.cmp .nin (.sl false (.var 5) (some (.cI 1)) (some (.cI 2))) (.lst false [.cS [92], .cS [34], .cS [110]])) [.ret (some (.cN))] [],
  .ex (.lm .append (.var 4) [.ite (.cmp .eq (.idx (.var 5) (.cI 1)) (.cS [110])) (.cS [10]) (.idx (.var 5) (.cI 1))]),
  .asg (.name 5) (.sl false (.var 5) (some (.cI 2)) none)] [.ex (.lm .append (.var 4) [.idx (.var 5) (.cI 0)]),
  .asg (.name 5) (.sl false (.var 5) (some (.cI 1)) none)]],
  .ret (some (.ite (.and [.cmp .ne (.var 5) (.cS []), .cmp .le (.bi (.len) [.var 4]) (.cI 200)]) (.tup [.sm .join (.cS []) [.var 4], .sl false (.var 5) (some (.cI 1)) none]) (.cN)))] [],
  .ite (.cmp .eq (.sl false (.var 0) none (some (.cI 3))) (.cS [121, 101, 115])) [.ret (some (.tup [.cB true, .sl false (.var 0) (some (.cI 3)) none]))] [],
  .ite (.cmp .eq (.sl false (.var 0) none (some (.cI 2))) (.cS [110, 111])) [.ret (some (.tup [.cB false, .sl false (.var 0) (some (.cI 2)) none]))] [],
  .asg (.name 1) (.cI 0),
  .asg (.name 2) (.ite (.cmp .eq (.sl false (.var 0) none (some (.cI 1))) (.cS [45])) (.cI 1) (.cI 0)),
  .whl (.cmp .inn (.sl false (.var 0) (some (.bin (.add false) (.var 2) (.var 1))) (some (.bin (.add false) (.bin (.add false) (.var 2) (.var 1)) (.cI 1)))) (.comp false (.name 6) .seq [.cS [48, 49, 50, 51, 52, 53, 54, 55, 56, 57]] (.var 6) none)) [.asg (.name 1) (.bin (.add false) (.var 1) (.cI 1))],
  .asg (.name 3) (.sl false (.var 0) (some (.var 2)) (some (.bin (.add false) (.var 2) (.var 1)))),
  .ite (.or [.cmp .eq (.var 1) (.cI 0), .cmp .gt (.var 1) (.cI 9), .and [.cmp .eq (.idx (.var 3) (.cI 0)) (.cS [48]), .cmp .ne (.var 3) (.cS [48])], .and [.cmp .eq (.var 3) (.cS [48]), .cmp .eq (.var 2) (.cI 1)]]) [.ret (some (.cN))] [],
  .ret (some (.tup [.bin (.mul false) (.bi (.int) [.var 3]) (.bin (.sub) (.cI 1) (.bin (.mul false) (.cI 2) (.var 2))), .sl false (.var 0) (some (.bin (.add false) (.var 2) (.var 1))) none]))]
def n__law_take : List Str := ["_law_text", "_law_size", "_law_first", "_law_figures", "_law_found", "_law_left", "_law_figure"]
def p__law_take : List Str := ["_law_text"]
/- 47 -/
def x__law_take_list : List XS := [.asg (.name 1) (.lst true []),
  .ite (.cmp .eq (.sl false (.var 0) none (some (.cI 1))) (.cS [93])) [.ret (some (.tup [.var 1, .sl false (.var 0) (some (.cI 1)) none]))] [],
  .whl (.cmp .ne (.sl false (.var 0) none (some (.cI 1))) (.cS [91])) [.asg (.name 2) (.call "_law_take" [.var 0]),
  .ite (.or [.isN false (.var 2), .cmp .eq (.bi (.len) [.var 1]) (.cI 20)]) [.ret (some (.cN))] [],
  .ex (.lm .append (.var 1) [.idx (.var 2) (.cI 0)]),
  .asg (.name 0) (.sm .lstrip (.idx (.var 2) (.cI 1)) [.cS [32]]),
  .ite (.cmp .eq (.sl false (.var 0) none (some (.cI 1))) (.cS [93])) [.ret (some (.tup [.var 1, .sl false (.var 0) (some (.cI 1)) none]))] [],
  .ite (.cmp .ne (.sl false (.var 0) none (some (.cI 1))) (.cS [44])) [.ret (some (.cN))] [],
  .asg (.name 0) (.sm .lstrip (.sl false (.var 0) (some (.cI 1)) none) [.cS [32]])],
  .ret (some (.cN))]
def n__law_take_list : List Str := ["_law_left", "_law_items", "_law_one"]
def p__law_take_list : List Str := ["_law_left"]
/- 48 -/
def x__law_told : List XS := [.asg (.name 2) (.cN),
  .asg (.name 3) (.cN),
  .tryx [.ite (.cmp .eq (.var 0) (.cI 0)) [.asg (.name 3) (.call "kind" [.var 1])] [.asg (.name 3) (.ite (.cmp .eq (.var 0) (.cI 1)) (.call "value_text" [.var 1]) (.call "read_value" [.var 1]))]] "SettingError" (some 4) [.asg (.name 2) (.var 4)],
  .ret (some (.ite (.isN false (.var 2)) (.tup [.cS [102, 111, 117, 110, 100], .var 3]) (.call "_law_refusal" [.var 2])))]
def n__law_told : List Str := ["_law_which", "_law_thing", "_law_caught", "_law_found", "e"]
def p__law_told : List Str := ["_law_which", "_law_thing"]
/- 49 -/
def x__law_is_read : List XS := [.asg (.name 1) (.call "_law_told" [.cI 2, .var 0]),
  .asg (.name 2) (.cN),
  .ite (.cmp .eq (.comp false (.name 3) .seq [.var 0] (.var 3) (some (.or [.not (.chain .le .le (.cS [32]) (.var 3) (.cS [126])), .cmp .eq (.bi (.ord) [.var 3]) (.cI 37)]))) (.lst false [])) [.asg (.name 2) (.call "_law_take" [.var 0])] [],
  .ite (.or [.isN false (.var 2), .cmp .ne (.idx (.var 2) (.cI 1)) (.cS [])]) [.ret (some (.cmp .eq (.var 1) (.tup [.cS [114, 101, 102, 117, 115, 101, 100], .cS [118, 97, 108, 117, 101]])))] [],
  .ret (some (.and [.cmp .eq (.idx (.var 1) (.cI 0)) (.cS [102, 111, 117, 110, 100]), .call "_law_same" [.idx (.var 1) (.cI 1), .idx (.var 2) (.cI 0)]]))]
def n__law_is_read : List Str := ["_law_text", "_law_found", "_law_due", "_law_sign_here"]
def p__law_is_read : List Str := ["_law_text"]
/- 50 -/
def x_law : List XS := [.asg (.name 1) (.lst true []),
  .asg (.name 2) (.call "_law_value" [.var 0, .var 1]),
  .asg (.name 3) (.call "_law_written" [.var 2]),
  .asg (.name 4) (.ite (.isin (.var 2) "bool") (.cS [116, 114, 117, 116, 104]) (.ite (.isin (.var 2) "int") (.cS [110, 117, 109, 98, 101, 114]) (.cS [116, 101, 120, 116]))),
  .asg (.name 4) (.ite (.isin (.var 2) "list") (.cS [108, 105, 115, 116]) (.var 4)),
  .ite (.or [.cmp .ne (.call "_law_told" [.cI 0, .var 2]) (.tup [.cS [102, 111, 117, 110, 100], .var 4]), .cmp .ne (.call "_law_told" [.cI 1, .var 2]) (.tup [.cS [102, 111, 117, 110, 100], .var 3])]) [.ret (some (.cB false))] [],
  .asg (.name 5) (.call "_law_told" [.cI 2, .var 3]),
  .ite (.or [.cmp .ne (.idx (.var 5) (.cI 0)) (.cS [102, 111, 117, 110, 100]), .not (.call "_law_same" [.idx (.var 5) (.cI 1), .var 2]), .not (.call "_law_is_read" [.var 3])]) [.ret (some (.cB false))] [],
  .forr (.name 6) .range1 [.cI 3] [.asg (.name 10) (.call "_law_draw" [.var 0, .var 1, .bin (.add false) (.bi (.len) [.var 3]) (.cI 1)]),
  .asg (.name 14) (.call "_law_pick" [.var 0, .var 1, .lst false [.cS [], .cS [], .cS [48], .cS [44], .cS [32], .cS [93], .cS [10], .call "_law_sign" [.var 0, .var 1]]]),
  .asg (.name 3) (.bin (.add false) (.bin (.add false) (.sl false (.var 3) none (some (.var 10))) (.var 14)) (.sl false (.var 3) (some (.bin (.add false) (.var 10) (.call "_law_draw" [.var 0, .var 1, .cI 2]))) none)),
  .ite (.not (.call "_law_is_read" [.var 3])) [.ret (some (.cB false))] []],
  .forr (.name 7) .seq [.lst false [.cS [45, 48], .cS [45, 48, 53], .cS [48, 48], .cS [48], .cS [45], .cS [45, 45, 49], .cS [49, 45], .cS [45, 49], .cS [49, 48, 48, 48, 48, 48, 48, 48, 48, 48], .cS [121, 101, 115, 32], .cS [34, 97], .cS [], .cS [91], .cS [91, 49, 93, 93]]] [.ite (.not (.call "_law_is_read" [.var 7])) [.ret (some (.cB false))] []],
  .asg (.name 8) (.comp true (.name 6) .range1 [.call "_law_pick" [.var 0, .var 1, .lst false [.cI 1, .cI 2, .cI 20, .cI 21]]] (.call "_law_written" [.call "_law_single" [.var 0, .var 1]]) none),
  .asg (.name 9) (.bin (.mul false) (.cS [32]) (.call "_law_draw" [.var 0, .var 1, .cI 3])),
  .ite (.not (.call "_law_is_read" [.bin (.add false) (.bin (.add false) (.bin (.add false) (.bin (.add false) (.cS [91]) (.var 9)) (.sm .join (.bin (.add false) (.bin (.add false) (.bin (.add false) (.var 9) (.cS [44])) (.var 9)) (.cS [32])) [.var 8])) (.var 9)) (.cS [93])])) [.ret (some (.cB false))] [],
  .asg (.name 10) (.call "_law_draw" [.var 0, .var 1, .cI 200]),
  .asg (.name 11) (.bin (.add false) (.bin (.add false) (.bin (.mul false) (.cS [97]) (.var 10)) (.call "_law_sign" [.var 0, .var 1])) (.bin (.mul false) (.cS [98]) (.bin (.sub) (.cI 200) (.var 10)))),
  .asg (.name 12) (.lst false [.bin (.pow) (.cI 10) (.cI 9), .bin (.sub) (.cI 0) (.bin (.pow) (.cI 10) (.cI 9)), .cN, .tup [.cI 1, .cI 2], .var 11, .cS [97, 9, 98], .cS [9], .bin (.mul false) (.lst false [.cI 1]) (.cI 21), .lst false [.lst false [.cI 1]], .lst false [.cN]]),
  .asg (.name 13) (.call "_law_pick" [.var 0, .var 1, .var 12]),
  .asg (.name 8) (.lst true [.cI 1, .cS [97], .cB true]),
  .ex (.lm .insert (.var 8) [.call "_law_draw" [.var 0, .var 1, .cI 4], .var 13]),
  .frz 8,
  .ite (.and [.cmp .ne (.var 13) (.bin (.mul false) (.lst false [.cI 1]) (.cI 21)), .cmp .ne (.comp false (.name 15) .seq [.tup [.cI 0, .cI 1]] (.call "_law_told" [.var 15, .var 8]) none) (.bin (.mul false) (.lst false [.tup [.cS [114, 101, 102, 117, 115, 101, 100], .cS [118, 97, 108, 117, 101]]]) (.cI 2))]) [.ret (some (.cB false))] [],
  .ite (.cmp .ne (.comp false (.name 15) .seq [.tup [.cI 0, .cI 1]] (.call "_law_told" [.var 15, .var 13]) none) (.bin (.mul false) (.lst false [.tup [.cS [114, 101, 102, 117, 115, 101, 100], .cS [118, 97, 108, 117, 101]]]) (.cI 2))) [.ret (some (.cB false))] [],
  .ret (some (.and [.cmp .eq (.idx (.call "_law_told" [.cI 1, .sl false (.var 11) (some (.cI 1)) none]) (.cI 0)) (.cS [102, 111, 117, 110, 100]), .cmp .eq (.idx (.call "_law_told" [.cI 1, .bin (.mul false) (.lst false [.cI 1]) (.cI 20)]) (.cI 0)) (.cS [102, 111, 117, 110, 100])]))]
def n_law : List Str := ["_law_script", "_law_town", "_law_value_here", "_law_text", "_law_word", "_law_found", "_law_k", "_law_odd", "_law_items", "_law_gap", "_law_at", "_law_long", "_law_some", "_law_bad", "_law_sign_here", "_law_which"]
def p_law : List Str := ["_law_script"]
end K01

set_option linter.all false
set_option autoImplicit false
set_option maxRecDepth 100000
namespace K01
open PySem PySem.Spec PyProof.Rows L2 TL DL
def top (i : Nat) : Stmt := PySem.Challenge.pw_settingbook_k01_whole_values.main.body.getD i (.Pass ⟨0, 0, 0, 0⟩)
theorem c_is_sign : (C8.scC n_is_sign p_is_sign (defScope (top 19)) && chkSs n_is_sign true (defScope (top 19)) x_is_sign (defBody (top 19))) = true := by decide +kernel
theorem c_is_text : (C8.scC n_is_text p_is_text (defScope (top 20)) && chkSs n_is_text true (defScope (top 20)) x_is_text (defBody (top 20))) = true := by decide +kernel
theorem c_is_single : (C8.scC n_is_single p_is_single (defScope (top 21)) && chkSs n_is_single true (defScope (top 21)) x_is_single (defBody (top 21))) = true := by decide +kernel
theorem c_is_value : (C8.scC n_is_value p_is_value (defScope (top 22)) && chkSs n_is_value true (defScope (top 22)) x_is_value (defBody (top 22))) = true := by decide +kernel
theorem c_look_value : (C8.scC n_look_value p_look_value (defScope (top 23)) && chkSs n_look_value true (defScope (top 23)) x_look_value (defBody (top 23))) = true := by decide +kernel
theorem c_kind : (C8.scC n_kind p_kind (defScope (top 24)) && chkSs n_kind true (defScope (top 24)) x_kind (defBody (top 24))) = true := by decide +kernel
theorem c_kind_of : (C8.scC n_kind_of p_kind_of (defScope (top 25)) && chkSs n_kind_of true (defScope (top 25)) x_kind_of (defBody (top 25))) = true := by decide +kernel
theorem c_quoted : (C8.scC n_quoted p_quoted (defScope (top 26)) && chkSs n_quoted true (defScope (top 26)) x_quoted (defBody (top 26))) = true := by decide +kernel
theorem c_value_text : (C8.scC n_value_text p_value_text (defScope (top 27)) && chkSs n_value_text true (defScope (top 27)) x_value_text (defBody (top 27))) = true := by decide +kernel
theorem c_text_of : (C8.scC n_text_of p_text_of (defScope (top 28)) && chkSs n_text_of true (defScope (top 28)) x_text_of (defBody (top 28))) = true := by decide +kernel
theorem c_number_at : (C8.scC n_number_at p_number_at (defScope (top 29)) && chkSs n_number_at true (defScope (top 29)) x_number_at (defBody (top 29))) = true := by decide +kernel
theorem c_text_at : (C8.scC n_text_at p_text_at (defScope (top 30)) && chkSs n_text_at true (defScope (top 30)) x_text_at (defBody (top 30))) = true := by decide +kernel
theorem c_single_at : (C8.scC n_single_at p_single_at (defScope (top 31)) && chkSs n_single_at true (defScope (top 31)) x_single_at (defBody (top 31))) = true := by decide +kernel
theorem c_blanks_from : (C8.scC n_blanks_from p_blanks_from (defScope (top 32)) && chkSs n_blanks_from true (defScope (top 32)) x_blanks_from (defBody (top 32))) = true := by decide +kernel
theorem c_value_at : (C8.scC n_value_at p_value_at (defScope (top 33)) && chkSs n_value_at true (defScope (top 33)) x_value_at (defBody (top 33))) = true := by decide +kernel
theorem c_read_value : (C8.scC n_read_value p_read_value (defScope (top 34)) && chkSs n_read_value true (defScope (top 34)) x_read_value (defBody (top 34))) = true := by decide +kernel
theorem c__law_cell : (C8.scC n__law_cell p__law_cell (defScope (top 36)) && chkSs n__law_cell true (defScope (top 36)) x__law_cell (defBody (top 36))) = true := by decide +kernel
theorem c__law_mix : (C8.scC n__law_mix p__law_mix (defScope (top 37)) && chkSs n__law_mix true (defScope (top 37)) x__law_mix (defBody (top 37))) = true := by decide +kernel
theorem c__law_draw : (C8.scC n__law_draw p__law_draw (defScope (top 38)) && chkSs n__law_draw true (defScope (top 38)) x__law_draw (defBody (top 38))) = true := by decide +kernel
theorem c__law_pick : (C8.scC n__law_pick p__law_pick (defScope (top 39)) && chkSs n__law_pick true (defScope (top 39)) x__law_pick (defBody (top 39))) = true := by decide +kernel
theorem c__law_refusal : (C8.scC n__law_refusal p__law_refusal (defScope (top 40)) && chkSs n__law_refusal true (defScope (top 40)) x__law_refusal (defBody (top 40))) = true := by decide +kernel
theorem c__law_sign : (C8.scC n__law_sign p__law_sign (defScope (top 41)) && chkSs n__law_sign true (defScope (top 41)) x__law_sign (defBody (top 41))) = true := by decide +kernel
theorem c__law_single : (C8.scC n__law_single p__law_single (defScope (top 42)) && chkSs n__law_single true (defScope (top 42)) x__law_single (defBody (top 42))) = true := by decide +kernel
theorem c__law_value : (C8.scC n__law_value p__law_value (defScope (top 43)) && chkSs n__law_value true (defScope (top 43)) x__law_value (defBody (top 43))) = true := by decide +kernel
theorem c__law_written : (C8.scC n__law_written p__law_written (defScope (top 44)) && chkSs n__law_written true (defScope (top 44)) x__law_written (defBody (top 44))) = true := by decide +kernel
theorem c__law_same : (C8.scC n__law_same p__law_same (defScope (top 45)) && chkSs n__law_same true (defScope (top 45)) x__law_same (defBody (top 45))) = true := by decide +kernel
theorem c__law_take : (C8.scC n__law_take p__law_take (defScope (top 46)) && chkSs n__law_take true (defScope (top 46)) x__law_take (defBody (top 46))) = true := by decide +kernel
theorem c__law_take_list : (C8.scC n__law_take_list p__law_take_list (defScope (top 47)) && chkSs n__law_take_list true (defScope (top 47)) x__law_take_list (defBody (top 47))) = true := by decide +kernel
theorem c__law_told : (C8.scC n__law_told p__law_told (defScope (top 48)) && chkSs n__law_told true (defScope (top 48)) x__law_told (defBody (top 48))) = true := by decide +kernel
theorem c__law_is_read : (C8.scC n__law_is_read p__law_is_read (defScope (top 49)) && chkSs n__law_is_read true (defScope (top 49)) x__law_is_read (defBody (top 49))) = true := by decide +kernel
theorem c_law : (C8.scC n_law p_law (defScope (top 50)) && chkSs n_law true (defScope (top 50)) x_law (defBody (top 50))) = true := by decide +kernel
end K01

set_option linter.all false
set_option autoImplicit false
set_option maxHeartbeats 1000000
namespace PV
open PySem PySem.Spec PyProof.Rows L2 TL DL K01
mutual
/-- plain data: no live things; texts and lists are not too long -/
def PureD : D → Prop
  | .non => True | .bl _ => True | .int _ => True
  | .str s => s.length ≤ 1000000
  | .lst ds => ds.length ≤ 1000000 ∧ PureL ds
  | .tup ds => ds.length ≤ 1000000 ∧ PureL ds
  | _ => False
def PureL : List D → Prop
  | [] => True
  | d :: ds => PureD d ∧ PureL ds
end
theorem PureL.mem : ∀ {ds : List D}, PureL ds → ∀ d ∈ ds, PureD d
  | [], _, d, h => by simp at h
  | x :: xs, h, d, hd => by
    simp only [PureL] at h
    rcases List.mem_cons.mp hd with e | e
    · rw [e]; exact h.1
    · exact PureL.mem h.2 d e
theorem PureL.of : ∀ {ds : List D}, (∀ d ∈ ds, PureD d) → PureL ds
  | [], _ => trivial
  | x :: xs, h => ⟨h x (by simp), PureL.of fun d hd => h d (List.mem_cons_of_mem _ hd)⟩
@[simp] theorem blsOf_map {α : Type} (p : α → Bool) : ∀ xs : List α, blsOf (xs.map fun x => D.bl (p x)) = some (xs.map p)
  | [] => rfl
  | x :: xs => by simp only [List.map_cons, blsOf, blsOf_map p xs, Option.map_some]
def isSign (c : Nat) : Bool := if (32 : Int) ≤ c then (if (c : Int) < 127 then !((c : Int) == 37) else false) else false
def isText : D → Bool
  | .str s => decide ((s.length : Int) ≤ 200) && s.all fun c => c == 10 || isSign c
  | _ => false
def isSingle : D → Bool
  | .bl _ => true
  | .int i => decide (-1000000000 < i ∧ i < 1000000000)
  | d => isText d
def isValue : D → Bool
  | .lst ds => decide ((ds.length : Int) ≤ 20) && ds.all isSingle
  | d => isSingle d
def sp_is_sign : DSp := fun ds S Q _ => ∃ c, ds = [.str [c]] ∧ Q (.bl (isSign c)) S
def sp_is_text : DSp := fun ds S Q _ => ∃ d, ds = [d] ∧ PureD d ∧ Q (.bl (isText d)) S
def sp_is_single : DSp := fun ds S Q _ => ∃ d, ds = [d] ∧ PureD d ∧ Q (.bl (isSingle d)) S
def sp_is_value : DSp := fun ds S Q _ => ∃ d, ds = [d] ∧ PureD d ∧ Q (.bl (isValue d)) S
section
variable {Γ : Gam}
theorem b_is_sign : BodyOk Γ x_is_sign 1 1 sp_is_sign := by
  rintro ds S Q E ⟨c, rfl, h⟩
  refine ⟨rfl, ?_⟩
  replace h := reQ.mk h
  unfold x_is_sign
  simp [-Bool.exists_bool, st0, ite_bl]
  refine bl_of h ?_
  simp [isSign]
theorem b_is_text (f1 : Γ.fn "is_sign" = some sp_is_sign) (g1 : Γ.gv "MOST_TEXT" = some (.int 200)) : BodyOk Γ x_is_text 1 2 sp_is_text := by
  rintro ds S Q E ⟨d, rfl, hd, h⟩
  refine ⟨rfl, ?_⟩
  replace h := reQ.mk h
  unfold x_is_text
  cases d <;> simp [-Bool.exists_bool, st0, subTy, f1, g1, isText, PureD] at hd h ⊢ <;> try exact h
  rename_i s
  split
  · refine bl_of h ?_
    simp; omega
  · refine ⟨by omega, ?_⟩
    refine comp_map (ι := fun c => D.str [c]) (fun c => .bl (c == 10 || isSign c)) trivial (fun c _ C hC => ?_) ?_
    · simp [-Bool.exists_bool, st0, sp_is_sign]
      split
      · rename_i e; subst e; simpa using hC
      · rename_i e
        rw [beq_eq_false_iff_ne.mpr e] at hC
        exact hC
    · simp [-Bool.exists_bool]
      refine bl_of h ?_
      simp_all
theorem b_is_single (f1 : Γ.fn "is_text" = some sp_is_text) : BodyOk Γ x_is_single 1 1 sp_is_single := by
  rintro ds S Q E ⟨d, rfl, hd, h⟩
  refine ⟨rfl, ?_⟩
  replace h := reQ.mk h
  unfold x_is_single
  cases d <;> simp [-Bool.exists_bool, st0, subTy, f1, sp_is_text, isSingle, PureD, ite_bl] at hd h ⊢ <;> try exact h
  · refine bl_of h ?_
    simp only [isText, Bool.false_eq_true, if_false, Bool.false_or]
    rw [Bool.eq_iff_iff]
    simp only [decide_eq_true_eq, Bool.and_eq_true]
    split <;> omega
  · exact ⟨hd, h⟩
  · exact ⟨hd, h⟩
  · exact ⟨hd, h⟩
theorem b_is_value (f1 : Γ.fn "is_single" = some sp_is_single) (g1 : Γ.gv "MOST_ITEMS" = some (.int 20)) : BodyOk Γ x_is_value 1 2 sp_is_value := by
  rintro ds S Q E ⟨d, rfl, hd, h⟩
  refine ⟨rfl, ?_⟩
  replace h := reQ.mk h
  unfold x_is_value
  cases d <;> simp [-Bool.exists_bool, st0, subTy, f1, g1, sp_is_single, isValue, PureD, ite_bl] at hd h ⊢ <;> try exact h
  · exact ⟨hd, h⟩
  · rename_i ds
    split
    · refine ⟨by omega, ?_⟩
      refine comp_map0 (fun d => .bl (isSingle d)) trivial (fun d hm C hC => ?_) ?_
      · simp [sp_is_single]
        exact ⟨PureL.mem hd.2 d hm, hC⟩
      · simp [-Bool.exists_bool]
        refine bl_of h ?_
        rename_i hl
        rw [decide_eq_true hl]
        simp
    · refine bl_of h ?_
      rename_i hl
      rw [decide_eq_false hl]
      simp
  · exact ⟨hd, h⟩
def kindT : D → Tx
  | .bl _ => [116, 114, 117, 116, 104]
  | .int _ => [110, 117, 109, 98, 101, 114]
  | .str _ => [116, 101, 120, 116]
  | _ => [108, 105, 115, 116]
def sp_kind_of : DSp := fun ds S Q _ => ∃ d, ds = [d] ∧ PureD d ∧ Q (.str (kindT d)) S
theorem b_kind_of : BodyOk Γ x_kind_of 1 1 sp_kind_of := by
  rintro ds S Q E ⟨d, rfl, hd, h⟩
  refine ⟨rfl, ?_⟩
  replace h := reQ.mk h
  unfold x_kind_of
  cases d <;> simp [-Bool.exists_bool, st0, subTy, kindT, PureD] at hd h ⊢ <;> exact h
def badV : Exn := ⟨"BadValue", []⟩
def sp_look_value : DSp := fun ds S Q E => ∃ d, ds = [d] ∧ PureD d ∧ (isValue d = true → Q .non S) ∧ (isValue d = false → E badV S)
theorem b_look_value (f1 : Γ.fn "is_value" = some sp_is_value) : BodyOk Γ x_look_value 1 1 sp_look_value := by
  rintro ds S Q E ⟨d, rfl, hd, h1, h2⟩
  refine ⟨rfl, ?_⟩
  unfold x_look_value
  simp [-Bool.exists_bool, st0, f1, sp_is_value]
  refine ⟨hd, ?_⟩
  split
  · rename_i e; exact reQ.mk (h1 e)
  · rename_i e; exact ⟨by simp [exNames], reE.mk (h2 (by simpa using e))⟩
def sp_kind : DSp := fun ds S Q E => ∃ d, ds = [d] ∧ PureD d ∧ (isValue d = true → Q (.str (kindT d)) S) ∧ (isValue d = false → E badV S)
theorem b_kind (f1 : Γ.fn "look_value" = some sp_look_value) (f2 : Γ.fn "kind_of" = some sp_kind_of) : BodyOk Γ x_kind 1 1 sp_kind := by
  rintro ds S Q E ⟨d, rfl, hd, h1, h2⟩
  refine ⟨rfl, ?_⟩
  unfold x_kind
  simp [-Bool.exists_bool, st0, f1, f2, sp_look_value, sp_kind_of]
  exact ⟨hd, fun e => ⟨hd, reQ.mk (h1 e)⟩, fun e => reE.mk (h2 e)⟩
/-! texts written -/
def esc1 (c : Nat) : Tx := if c = 10 then [92, 110] else if c = 34 ∨ c = 92 then [92, c] else [c]
def quotedT (s : Tx) : Tx := [34] ++ s.flatMap esc1 ++ [34]
def sp_quoted : DSp := fun ds S Q _ => ∃ s, ds = [.str s] ∧ s.length ≤ 1000000 ∧ Q (.str (quotedT s)) S
theorem joinL_nil : ∀ xs : List Tx, joinL [] xs = xs.flatten
  | [] => rfl
  | [x] => by simp [joinL]
  | x :: y :: r => by
    have := joinL_nil (y :: r)
    simp only [joinL] at this ⊢
    rw [this]; simp
theorem quoted_len (s : Tx) : (s.flatMap esc1).length ≤ 2 * s.length := by
  induction s with
  | nil => simp
  | cons c s ih =>
    rw [List.flatMap_cons, List.length_append, List.length_cons]
    have : (esc1 c).length ≤ 2 := by unfold esc1; split <;> (try split) <;> simp
    omega
theorem b_quoted : BodyOk Γ x_quoted 1 3 sp_quoted := by
  rintro ds S Q E ⟨s, rfl, hl, h⟩
  refine ⟨rfl, ?_⟩
  unfold x_quoted
  simp [-Bool.exists_bool, st0, q_sFor]
  intro a ha
  refine for_ind (fun i σ S' => ∃ x, σ = [some (.str s), some (.ref a), x] ∧ S' = S.upd a (.lst ((s.take i).map fun c => D.str (esc1 c)))) ⟨none, rfl, by simp⟩ (fun _ _ _ _ => trivial) ?_ ?_
  · rintro i σ S' hi ⟨x, rfl, rfl⟩ C hC
    rw [List.length_map] at hi
    have hc := hC [some (.str s), some (.ref a), some (.str [s[i]])] (S.upd a (.lst ((s.take (i + 1)).map fun c => D.str (esc1 c)))) ⟨_, rfl, rfl⟩
    rw [List.take_succ_eq_append_getElem hi] at hc
    have e : ∀ t, esc1 s[i] = t → C [some (.str s), some (.ref a), some (.str [s[i]])] (S.upd a (.lst (((s.take i).map fun c => D.str (esc1 c)) ++ [.str t]))) := fun t et => by
      rw [List.map_append] at hc
      simpa [et, -List.map_take] using hc
    simp [-Bool.exists_bool, -List.map_take]
    split
    · rename_i h1
      exact ⟨by omega, e _ (by unfold esc1; rw [if_pos h1])⟩
    · rename_i h1
      split
      · rename_i h2
        exact ⟨by omega, e _ (by unfold esc1; rw [if_neg h1, if_pos h2])⟩
      · rename_i h2
        exact ⟨by omega, e _ (by unfold esc1; rw [if_neg h1, if_neg h2])⟩
  · rintro σ S' ⟨x, rfl, rfl⟩
    rw [List.length_map, List.take_length]
    have hq := quoted_len s
    have e : (s.map fun c => D.str (esc1 c)) = (s.map esc1).map D.str := by rw [List.map_map]; rfl
    have e2 : joinL [] (s.map esc1) = s.flatMap esc1 := by rw [joinL_nil, List.flatMap_def]
    have e3 : ((s.map esc1).map (·.length)).sum = (s.flatMap esc1).length := by rw [List.length_flatMap, List.map_map]; rfl
    simp [-Bool.exists_bool, -List.map_map]
    refine ⟨s.map esc1, e, by rw [e3]; omega, ?_⟩
    rw [e2]
    refine ⟨by omega, by omega, ⟨_, S, DS.le_upd (DS.le_refl S) ha, .same, ?_⟩⟩
    simpa [quotedT] using h
end
end PV

set_option linter.all false
set_option autoImplicit false
set_option maxHeartbeats 1000000
namespace PV
open PySem PySem.Spec PyProof.Rows L2 TL DL K01
theorem numT_nat (n : Nat) : numT (n : Int) = TL.numL n := by
  unfold numT
  rw [← tl_ofString]
  exact TL.tl_num n
theorem numT_neg (n : Nat) : numT (-((n + 1 : Nat) : Int)) = 45 :: TL.numL (n + 1) := by
  have e : toString (-((n + 1 : Nat) : Int)) = "-" ++ toString (n + 1) := rfl
  unfold numT
  rw [e, String.toList_append, List.map_append]
  have : (toString (n + 1)).toList.map Char.toNat = TL.numL (n + 1) := by
    have := numT_nat (n + 1)
    exact this
  rw [this]; rfl
theorem numT_len {i : Int} (h : -1000000000 < i ∧ i < 1000000000) : (numT i).length ≤ 10 := by
  by_cases h0 : 0 ≤ i
  · obtain ⟨n, rfl⟩ := Int.eq_ofNat_of_zero_le h0
    have := TL.numL_len (n := n) (k := 9) (by omega) (by omega)
    rw [numT_nat]; omega
  · obtain ⟨n, hn⟩ : ∃ n : Nat, i = -((n + 1 : Nat) : Int) := ⟨(-i - 1).toNat, by omega⟩
    subst hn
    have := TL.numL_len (n := n + 1) (k := 9) (by omega) (by omega)
    rw [numT_neg, List.length_cons]; omega
theorem log2_small {i : Int} (h : -1000000000 < i ∧ i < 1000000000) : i.natAbs.log2 < 1920 := by
  by_cases h0 : i.natAbs = 0
  · rw [h0]; decide
  · have := Nat.log2_self_le h0
    rcases Nat.lt_or_ge i.natAbs.log2 1920 with h1 | h1
    · exact h1
    · have : 2 ^ 1920 ≤ 2 ^ i.natAbs.log2 := Nat.pow_le_pow_right (by decide) h1
      have h2 : 2 ^ 30 ≤ 2 ^ 1920 := Nat.pow_le_pow_right (by decide) (by decide)
      have h3 : (2:Nat) ^ 30 = 1073741824 := by decide
      omega
def singleT : D → Tx
  | .bl b => if b then [121, 101, 115] else [110, 111]
  | .int i => numT i
  | .str s => quotedT s
  | _ => []
def textOf : D → Tx
  | .lst ds => [91] ++ joinL [44, 32] (ds.map singleT) ++ [93]
  | d => singleT d
def sp_text1 : DSp := fun ds S Q _ => ∃ d, ds = [d] ∧ isSingle d = true ∧ Q (.str (singleT d)) S
def sp_text2 : DSp := fun ds S Q _ => ∃ d, ds = [d] ∧ isValue d = true ∧ Q (.str (textOf d)) S
section
variable {Γ : Gam}
theorem isText_len {s : Tx} (h : isText (.str s) = true) : s.length ≤ 200 := by
  unfold isText at h
  simp only [Bool.and_eq_true, decide_eq_true_eq] at h
  omega
theorem b_text1 (f1 : Γ.fn "quoted" = some sp_quoted) : BodyOk Γ x_text_of 1 2 sp_text1 := by
  rintro ds S Q E ⟨d, rfl, hd, h⟩
  refine ⟨rfl, ?_⟩
  replace h := reQ.mk h
  unfold x_text_of
  cases d <;> try (simp [isSingle, isText] at hd; done)
  all_goals simp [-Bool.exists_bool, st0, subTy, f1, singleT, isSingle, sp_quoted] at hd h ⊢
  · rename_i b
    cases b <;> simpa using h
  · exact ⟨log2_small hd, by have := numT_len hd; omega, h⟩
  · exact ⟨by have := isText_len hd; omega, h⟩
theorem singleT_len {d : D} (h : isSingle d = true) : (singleT d).length ≤ 402 := by
  cases d <;> simp only [isSingle, isText, decide_eq_true_eq] at h <;> try (cases h; done)
  · rename_i b; cases b <;> simp [singleT]
  · have := numT_len h; simp only [singleT]; omega
  · rename_i s
    have h2 := isText_len (s := s) h
    have := quoted_len s
    simp only [singleT, quotedT, List.length_append, List.length_cons, List.length_nil]
    omega
theorem b_text2 (f1 : Γ.fn "quoted" = some sp_quoted) (f2 : Γ.fn "text_of" = some sp_text1) : BodyOk Γ x_text_of 1 2 sp_text2 := by
  rintro ds S Q E ⟨d, rfl, hd, h⟩
  by_cases hl : ∃ es, d = .lst es
  · obtain ⟨es, rfl⟩ := hl
    refine ⟨rfl, ?_⟩
    replace h := reQ.mk h
    unfold x_text_of
    simp only [isValue, Bool.and_eq_true, decide_eq_true_eq, List.all_eq_true] at hd
    simp [-Bool.exists_bool, st0, subTy, f1, f2, sp_text1]
    refine ⟨by omega, ?_⟩
    refine comp_map0 (fun d => .str (singleT d)) trivial (fun d hm C hC => ?_) ?_
    · simp [sp_text1]
      exact ⟨hd.2 d hm, hC⟩
    · have hs : ((es.map singleT).map (·.length)).sum ≤ 402 * es.length := by
        have : ∀ l : List D, (∀ d ∈ l, isSingle d = true) → ((l.map singleT).map (·.length)).sum ≤ 402 * l.length := by
          intro l
          induction l with
          | nil => intro _; simp
          | cons x xs ih =>
            intro hx
            have h1 := singleT_len (hx x (by simp))
            have h2 := ih fun d hd => hx d (List.mem_cons_of_mem _ hd)
            simp only [List.map_cons, List.sum_cons, List.length_cons]
            omega
        exact this es hd.2
      have hj : (joinL [44, 32] (es.map singleT)).length ≤ 404 * es.length := by
        have : ∀ l : List D, (∀ d ∈ l, isSingle d = true) → (joinL [44, 32] (l.map singleT)).length ≤ 404 * l.length := by
          intro l
          induction l with
          | nil => intro _; simp [joinL]
          | cons x xs ih =>
            intro hx
            have h1 := singleT_len (hx x (by simp))
            have h2 := ih fun d hd => hx d (List.mem_cons_of_mem _ hd)
            cases xs with
            | nil => simp only [List.map_cons, List.map_nil, joinL, List.length_cons, List.length_nil]; omega
            | cons y ys =>
              simp only [List.map_cons, joinL, List.length_append, List.length_cons, List.length_nil] at h2 ⊢
              omega
        exact this es hd.2
      have e : (es.map fun d => D.str (singleT d)) = (es.map singleT).map D.str := by rw [List.map_map]; rfl
      refine ⟨es.map singleT, e, Nat.le_trans (Nat.add_le_add hs (Nat.le_refl _)) (by rw [List.length_map]; omega), by omega, by omega, ?_⟩
      simpa [textOf] using h
  · have h2 : isSingle d = true ∧ textOf d = singleT d := by
      cases d <;> first | exact ⟨hd, rfl⟩ | exact (hl ⟨_, rfl⟩).elim
    rw [h2.2] at h
    exact b_text1 f1 [d] S Q E ⟨d, rfl, h2.1, h⟩
def sp_value_text : DSp := fun ds S Q E => ∃ d, ds = [d] ∧ PureD d ∧ (isValue d = true → Q (.str (textOf d)) S) ∧ (isValue d = false → E badV S)
theorem b_value_text (f1 : Γ.fn "look_value" = some sp_look_value) (f2 : Γ.fn "text_of" = some sp_text2) : BodyOk Γ x_value_text 1 1 sp_value_text := by
  rintro ds S Q E ⟨d, rfl, hd, h1, h2⟩
  refine ⟨rfl, ?_⟩
  unfold x_value_text
  simp [-Bool.exists_bool, st0, f1, f2, sp_look_value, sp_text2]
  exact ⟨hd, fun e => ⟨e, reQ.mk (h1 e)⟩, fun e => reE.mk (h2 e)⟩
end
end PV

set_option linter.all false
set_option autoImplicit false
set_option maxHeartbeats 1000000
namespace PV
open PySem PySem.Spec PyProof.Rows L2 TL DL K01
/-! parts of texts by places -/
theorem cut_nat {α : Type} (t : List α) (a b : Nat) : cut t (some (a : Int)) (some (b : Int)) = (t.drop a).take (b - a) := by
  unfold cut
  rw [HT.sIx_nat, HT.sIx_nat]
  by_cases h : a ≤ t.length
  · rw [Nat.min_eq_left h]
    by_cases h2 : b ≤ t.length
    · rw [Nat.min_eq_left h2]
    · rw [Nat.min_eq_right (by omega), List.take_of_length_le (by rw [List.length_drop]; omega), List.take_of_length_le (by rw [List.length_drop]; omega)]
  · rw [List.drop_eq_nil_of_le (by omega : t.length ≤ min a t.length), List.drop_eq_nil_of_le (by omega : t.length ≤ a)]
    simp
theorem cut_from {α : Type} (t : List α) (a : Nat) : cut t (some (a : Int)) none = t.drop a := by
  unfold cut
  rw [HT.sIx_nat, HT.sIx_none]
  by_cases h : a ≤ t.length
  · rw [Nat.min_eq_left h, List.take_of_length_le (by rw [List.length_drop]; omega)]
  · rw [List.drop_eq_nil_of_le (by omega : t.length ≤ min a t.length), List.drop_eq_nil_of_le (by omega : t.length ≤ a)]
    simp
theorem cut_to {α : Type} (t : List α) (b : Nat) : cut t none (some (b : Int)) = t.take b := by
  unfold cut
  rw [HT.sIx_nat, HT.sIx_none, List.drop_zero, Nat.sub_zero]
  by_cases h : b ≤ t.length
  · rw [Nat.min_eq_left h]
  · rw [Nat.min_eq_right (by omega), List.take_of_length_le (Nat.le_refl _), List.take_of_length_le (by omega)]
theorem cut_1 {t : Tx} (k : Nat) : cut t (some (k : Int)) (some ((k : Int) + 1)) = (t.drop k).take 1 := by
  have := cut_nat t k (k + 1)
  rw [Nat.add_sub_cancel_left] at this
  exact this
theorem cut_2 {t : Tx} (k : Nat) : cut t (some ((k : Int) + 1)) (some ((k : Int) + 2)) = (t.drop (k + 1)).take 1 := by
  have := cut_nat t (k + 1) (k + 2)
  rw [show k + 2 - (k + 1) = 1 by omega] at this
  exact this
theorem at_nat {α : Type} {t : List α} {k : Nat} {c : α} {r : List α} (h : t.drop k = c :: r) : atI t (k : Int) = some c := by
  have hk : k < t.length := by
    have := congrArg List.length h
    rw [List.length_drop, List.length_cons] at this; omega
  have e : t[k]? = some c := by
    have : (t.drop k)[0]? = some c := by rw [h]; rfl
    rwa [List.getElem?_drop, Nat.add_zero] at this
  unfold atI ixN
  rw [if_pos (by omega), if_pos (by omega)]
  simpa using e
theorem drop_succ {α : Type} {t : List α} {k : Nat} {c : α} {r : List α} (h : t.drop k = c :: r) : t.drop (k + 1) = r := by
  rw [← List.drop_drop, h]; rfl
theorem drop_lt {α : Type} {t : List α} {k : Nat} {c : α} {r : List α} (h : t.drop k = c :: r) : k < t.length := by
  have := congrArg List.length h
  rw [List.length_drop, List.length_cons] at this; omega
/-- the place of a rest -/
def Pl (t : Tx) (k : Nat) (r : Tx) : Prop := k ≤ t.length ∧ t.drop k = r
theorem Pl.next {t : Tx} {k c : Nat} {r : Tx} (h : Pl t k (c :: r)) : Pl t (k + 1) r := ⟨drop_lt h.2, drop_succ h.2⟩
theorem Pl.at {t : Tx} {k c : Nat} {r : Tx} (h : Pl t k (c :: r)) : atI t (k : Int) = some c := at_nat h.2
theorem Pl.one {t : Tx} {k : Nat} {r : Tx} (h : Pl t k r) : cut t (some (k : Int)) (some ((k : Int) + 1)) = r.take 1 := by rw [cut_1, h.2]
theorem Pl.len {t : Tx} {k : Nat} {r : Tx} (h : Pl t k r) : r.length = t.length - k := by rw [← h.2, List.length_drop]
section
variable {Γ : Gam}
def sp_blanks : DSp := fun ds S Q _ => ∃ t k r, ds = [.str t, .int (k : Nat)] ∧ Pl t k r ∧ ∀ k', Pl t k' (lstripT r) → Q (.int (k' : Nat)) S
theorem b_blanks_from : BodyOk Γ x_blanks_from 2 2 sp_blanks := by
  rintro ds S Q E ⟨t, k, r, rfl, hp, h⟩
  refine ⟨rfl, ?_⟩
  unfold x_blanks_from
  simp [-Bool.exists_bool, st0]
  refine whl_ind (fun m σ S' => ∃ k r', σ = [some (.str t), some (.int (k : Nat))] ∧ S' = S ∧ Pl t k r' ∧ lstripT r' = lstripT r ∧ m = r'.length) r.length ⟨k, r, rfl, rfl, hp, rfl, rfl⟩ ?_
  rintro m σ S' ⟨k, r', rfl, rfl, hp, hr, rfl⟩
  simp [-Bool.exists_bool, hp.one]
  cases r' with
  | nil =>
    simp
    rw [← hr] at h
    exact reQ.mk (h k hp)
  | cons c r' =>
    by_cases hc : c = 32
    · subst hc
      simp
      exact ⟨_, Nat.lt_succ_self _, k + 1, by omega, r', hp.next, by rw [← hr]; rfl, rfl⟩
    · simp [hc]
      have e : lstripT (c :: r') = c :: r' := by unfold lstripT; rw [List.dropWhile_cons_of_neg (by simpa using hc)]
      rw [← hr, e] at h
      exact reQ.mk (h k hp)
end
end PV

set_option linter.all false
set_option autoImplicit false
set_option maxHeartbeats 1000000
namespace PV
open PySem PySem.Spec PyProof.Rows L2 TL DL K01
def isFig (c : Nat) : Bool := decide (48 ≤ c ∧ c ≤ 57)
def figs (r : Tx) : Tx := r.takeWhile isFig
def numBad (neg : Bool) (f : Tx) : Bool := decide (f.length < 1 ∨ 9 < f.length ∨ (f.take 1 = [48] ∧ (1 < f.length ∨ neg = true)))
def negOf (r : Tx) : Bool := r.take 1 == [45]
def aft (r : Tx) : Tx := if negOf r then r.drop 1 else r
def numOf (r : Tx) : Option (Int × Tx) :=
  if numBad (negOf r) (figs (aft r)) then none else some ((if negOf r then -((NumText.digitsVal (figs (aft r)) : Nat) : Int) else ((NumText.digitsVal (figs (aft r)) : Nat) : Int)), (aft r).dropWhile isFig)
def sp_number_at : DSp := fun ds S Q _ => ∃ t k r, ds = [.str t, .int (k : Nat)] ∧ t.length ≤ 1000000 ∧ Pl t k r ∧ (numOf r = none → Q .non S) ∧ ∀ v r' k', numOf r = some (v, r') → Pl t k' r' → Q (.tup [.int v, .int (k' : Nat)]) S
theorem mem_figs {c : Nat} : decide (c ∈ [48, 49, 50, 51, 52, 53, 54, 55, 56, 57]) = isFig c := by
  unfold isFig
  rw [decide_eq_decide]
  simp only [List.mem_cons, List.not_mem_nil, or_false]
  omega
theorem figs_take (r : Tx) : r.take (figs r).length = figs r := by
  unfold figs
  induction r with
  | nil => rfl
  | cons c r ih =>
    by_cases h : isFig c = true
    · rw [List.takeWhile_cons_of_pos h, List.length_cons, List.take_succ_cons, ih]
    · rw [List.takeWhile_cons_of_neg h]; rfl
theorem figs_all (r : Tx) : NumText.AllDigits (figs r) := by
  intro c hc
  have : isFig c = true := by
    have := List.all_takeWhile (p := isFig) (l := r)
    rw [List.all_eq_true] at this
    exact this c hc
  unfold isFig at this
  exact of_decide_eq_true this
section
variable {Γ : Gam}
theorem number_end {t : Tx} {k k1 k2 : Nat} {r : Tx} {S : DS} {Q : QD} {E : QE} (g2 : Γ.gv "MOST_FIGURES" = some (.int 9)) (hl : t.length ≤ 1000000) (hp : Pl t k r) (hp1 : Pl t k1 (aft r))
    (hk : k1 = k + (if negOf r = true then 1 else 0)) (hp2 : Pl t k2 ((aft r).dropWhile isFig)) (hk2 : k2 = k1 + (figs (aft r)).length) (h1 : numOf r = none → Q .non S) (h2 : ∀ v r' k', numOf r = some (v, r') → Pl t k' r' → Q (.tup [.int v, .int (k' : Nat)]) S) :
    rdSs Γ (x_number_at.drop 3) (bodyEnds Q E) [some (.str t), some (.int k), some (.int k2), some (.int k1), none] S := by
  simp only [x_number_at, List.drop_succ_cons, List.drop_zero]
  have c1 : cut t (some (k1 : Int)) (some (k2 : Int)) = figs (aft r) := by
    rw [cut_nat, hp1.2, hk2, Nat.add_sub_cancel_left, figs_take]
  have c2 : cut t (some (k : Int)) (some (k2 : Int)) = if negOf r = true then 45 :: figs (aft r) else figs (aft r) := by
    rw [cut_nat, hp.2, hk2, hk]
    by_cases hn : negOf r = true
    · rw [if_pos hn, if_pos hn]
      cases r with
      | nil => cases hn
      | cons c r =>
        have hc : c = 45 := by simpa [negOf] using hn
        have ha : aft (c :: r) = r := by unfold aft; rw [if_pos hn]; rfl
        rw [ha, hc, show k + 1 + (figs r).length - k = (figs r).length + 1 by omega, List.take_succ_cons, figs_take]
    · rw [if_neg hn, if_neg hn]
      have ha : aft r = r := by unfold aft; rw [if_neg hn]
      rw [ha, show k + 0 + (figs r).length - k = (figs r).length by omega, figs_take]
  have hr : numOf r = none → reQ Q .non S := fun e => reQ.mk (h1 e)
  have hfl : (figs (aft r)).length ≤ 1000000 := by
    have := hp2.1; omega
  have num : (figs (aft r)).length ≠ 0 → (figs (aft r)).length ≤ 9 → numBad (negOf r) (figs (aft r)) = false → ∃ n, PySem.intText? (tS (cut t (some (k : Int)) (some (k2 : Int)))) = some n ∧ (cut t (some (k : Int)) (some (k2 : Int))).length ≤ 640 ∧ reQ Q (D.tup [D.int n, D.int (k2 : Nat)]) S := by
    intro n0 n9 nb
    have hq := h2 (if negOf r then -((NumText.digitsVal (figs (aft r)) : Nat) : Int) else ((NumText.digitsVal (figs (aft r)) : Nat) : Int)) _ k2 (by unfold numOf; rw [nb]; rfl) hp2
    have hne : figs (aft r) ≠ [] := fun e => n0 (by rw [e]; rfl)
    refine ⟨_, ?_, ?_, reQ.mk hq⟩
    · rw [c2]
      by_cases hn : negOf r = true
      · rw [if_pos hn, if_pos hn]
        exact PySem.intText_neg (by rw [tS_cps]) (figs_all _) hne (by rw [tS_length, List.length_cons]; omega)
      · rw [if_neg hn, if_neg hn]
        have := PySem.intText_digits (x := tS (figs (aft r))) (by rw [tS_cps]; exact figs_all _) (by rw [tS_cps]; exact hne) (by rw [tS_length]; omega)
        rwa [tS_cps] at this
    · rw [c2]; split
      · rw [List.length_cons]; omega
      · omega
  have bad : numBad (negOf r) (figs (aft r)) = true → reQ Q .non S := fun e => hr (by unfold numOf; rw [if_pos e])
  have hneg : k < k1 ↔ negOf r = true := by
    rw [hk]
    by_cases hn : negOf r = true
    · simp [hn]
    · simp [hn]
  simp [-Bool.exists_bool, g2, c1, hneg]
  generalize hf : figs (aft r) = f at *
  cases f with
  | nil => simpa using bad (by simp [numBad])
  | cons c f =>
    have n0 : (c :: f).length ≠ 0 := by simp
    have a0 : atI (c :: f) 0 = some c := at_nat (t := c :: f) (k := 0) rfl
    rw [if_pos (by rw [List.length_cons]; omega)]
    split
    · rename_i h9
      refine ⟨c, a0, ?_⟩
      split
      · rename_i h48
        subst h48
        split
        · rename_i hlen
          simp only [List.length_cons] at hlen
          exact bad (by unfold numBad; simp; omega)
        · rename_i hlen
          split
          · rename_i hn
            exact bad (by unfold numBad; simp [hn])
          · rename_i hn
            have hf0 : f = [] := by
              cases f with
              | nil => rfl
              | cons _ _ => exact (hlen (by simp only [List.length_cons]; omega)).elim
            subst hf0
            exact num n0 (by decide) (by unfold numBad; simp [hn])
      · rename_i h48
        exact num n0 (by omega) (by unfold numBad; simp [h48]; rw [List.length_cons] at h9; omega)
    · rename_i h9
      exact bad (by unfold numBad; simp; rw [List.length_cons] at h9; omega)
theorem number_rest {t : Tx} {k k1 : Nat} {r : Tx} {S : DS} {Q : QD} {E : QE} (g1 : Γ.gv "FIGURES" = some (.str [48, 49, 50, 51, 52, 53, 54, 55, 56, 57])) (g2 : Γ.gv "MOST_FIGURES" = some (.int 9)) (hl : t.length ≤ 1000000) (hp : Pl t k r) (hp1 : Pl t k1 (aft r))
    (hk : k1 = k + (if negOf r = true then 1 else 0)) (h1 : numOf r = none → Q .non S) (h2 : ∀ v r' k', numOf r = some (v, r') → Pl t k' r' → Q (.tup [.int v, .int (k' : Nat)]) S) :
    rdSs Γ (x_number_at.drop 1) (bodyEnds Q E) [some (.str t), some (.int k), some (.int k1), none, none] S := by
  have R := fun k2 a b => number_end (E := E) (k2 := k2) g2 hl hp hp1 hk a b h1 h2
  rw [show x_number_at.drop 1 = (x_number_at.drop 1).take 2 ++ x_number_at.drop 3 from rfl]
  generalize x_number_at.drop 3 = rest at R
  simp only [x_number_at, List.drop_succ_cons, List.drop_zero, List.take_succ_cons, List.take_zero]
  simp [-Bool.exists_bool]
  refine whl_ind (fun m σ S' => ∃ k2 r', σ = [some (.str t), some (.int (k : Nat)), some (.int (k2 : Nat)), some (.int (k1 : Nat)), none] ∧ S' = S ∧ Pl t k2 r' ∧ r'.dropWhile isFig = (aft r).dropWhile isFig ∧ k1 + (figs (aft r)).length = k2 + (figs r').length ∧ m = r'.length) (aft r).length
    ⟨k1, aft r, rfl, rfl, hp1, rfl, rfl, rfl⟩ ?_
  rintro m σ S' ⟨k2, r', rfl, rfl, hp2, hd, hf, rfl⟩
  have fin : figs r' = [] → r' = (aft r).dropWhile isFig ∧ k2 = k1 + (figs (aft r)).length := fun e => by
    rw [e] at hf
    refine ⟨?_, by simp at hf; omega⟩
    rw [← hd]
    cases r' with
    | nil => rfl
    | cons c r' =>
      unfold figs at e
      by_cases hc : isFig c = true
      · rw [List.takeWhile_cons_of_pos hc] at e; cases e
      · rw [List.dropWhile_cons_of_neg hc]
  simp [-Bool.exists_bool, hp2.one, g1]
  cases r' with
  | nil =>
    obtain ⟨e1, e2⟩ := fin rfl
    simp
    exact R k2 (e1 ▸ hp2) e2
  | cons c r' =>
    simp
    refine ⟨c, hp2.at, ?_⟩
    have hm := mem_figs (c := c)
    simp only [List.mem_cons, List.not_mem_nil, or_false] at hm
    split
    · rename_i hc
      rw [decide_eq_true hc] at hm
      refine ⟨_, Nat.lt_succ_self _, k2 + 1, by omega, r', hp2.next, ?_, ?_, rfl⟩
      · rw [← hd, List.dropWhile_cons_of_pos hm.symm]
      · rw [hf]; unfold figs; rw [List.takeWhile_cons_of_pos hm.symm, List.length_cons]; omega
    · rename_i hc
      rw [decide_eq_false hc] at hm
      have e : figs (c :: r') = [] := by unfold figs; rw [List.takeWhile_cons_of_neg (by rw [← hm]; simp)]
      obtain ⟨e1, e2⟩ := fin e
      exact R k2 (e1 ▸ hp2) e2
theorem b_number_at (g1 : Γ.gv "FIGURES" = some (.str [48, 49, 50, 51, 52, 53, 54, 55, 56, 57])) (g2 : Γ.gv "MOST_FIGURES" = some (.int 9)) : BodyOk Γ x_number_at 2 5 sp_number_at := by
  rintro ds S Q E ⟨t, k, r, rfl, hl, hp, h1, h2⟩
  refine ⟨rfl, ?_⟩
  have R := fun k1 a b => number_rest (E := E) (k1 := k1) g1 g2 hl hp a b h1 h2
  rw [show x_number_at = x_number_at.take 1 ++ x_number_at.drop 1 from rfl]
  generalize x_number_at.drop 1 = rest at R
  simp [-Bool.exists_bool, x_number_at, st0, hp.one]
  split
  · rename_i hn
    cases r with
    | nil => cases hn
    | cons c r => exact R (k + 1) (by simp only [aft, negOf, hn]; exact hp.next) (by simp [negOf, hn])
  · rename_i hn
    exact R k (by simpa [aft, negOf, hn] using hp) (by simp [negOf, hn])
end
end PV

set_option linter.all false
set_option autoImplicit false
set_option maxHeartbeats 1000000
namespace PV
open PySem PySem.Spec PyProof.Rows L2 TL DL K01
def escOf (c : Nat) : Option Nat := if c = 92 then some 92 else if c = 34 then some 34 else if c = 110 then some 10 else none
def scanT : Tx → Option (Tx × Tx)
  | [] => none
  | c :: r => if c = 34 then some ([], r) else if c = 92 then (match r with
    | [] => none
    | e :: r' => match escOf e with
      | none => none
      | some z => (scanT r').map fun p => (z :: p.1, p.2)) else (scanT r).map fun p => (c :: p.1, p.2)
def textR (r : Tx) : Option (D × Tx) := match scanT r with
  | none => none
  | some p => if 200 < p.1.length then none else some (.str p.1, p.2)
def escL : List (Tx × Tx) := [([92], [92]), ([34], [34]), ([110], [10])]
theorem escL_nil : lookG escL [] = none := by decide
theorem escL_one (c : Nat) : lookG escL [c] = (escOf c).map fun z => [z] := by
  unfold lookG escL escOf
  simp only [List.find?_cons, List.find?_nil, List.cons.injEq, and_true]
  by_cases h1 : c = 92
  · subst h1; rfl
  · by_cases h2 : c = 34
    · subst h2; rfl
    · by_cases h3 : c = 110
      · subst h3; rfl
      · have e1 : (92 = c) = False := eq_false (Ne.symm h1)
        have e2 : (34 = c) = False := eq_false (Ne.symm h2)
        have e3 : (110 = c) = False := eq_false (Ne.symm h3)
        simp [e1, e2, e3, h1, h2, h3]
/-- a reading's ends: refused, or the value and the place behind it -/
def RdEnd (t : Tx) (S : DS) (Q : QD) (o : Option (D × Tx)) : Prop := (o = none → Q .non S) ∧ ∀ v r' k', o = some (v, r') → Pl t k' r' → Q (.tup [v, .int (k' : Nat)]) S
def sp_text_at : DSp := fun ds S Q _ => ∃ t k r, ds = [.str t, .int (k : Nat)] ∧ t.length ≤ 1000000 ∧ Pl t k (34 :: r) ∧ RdEnd t S Q (textR r)
theorem flat1 : ∀ fs : Tx, (fs.map fun c => [c]).flatten = fs
  | [] => rfl
  | c :: fs => by rw [List.map_cons, List.flatten_cons, flat1 fs]; rfl
theorem sum1 : ∀ fs : Tx, ((fs.map fun c => [c]).map fun x : List Nat => x.length).sum = fs.length
  | [] => rfl
  | c :: fs => by rw [List.map_cons, List.map_cons, List.sum_cons, sum1 fs, List.length_cons]; simp; omega
section
variable {Γ : Gam}
theorem text_end {t : Tx} {k k2 : Nat} {r r2 : Tx} {fs : Tx} {a : Addr} {S : DS} {Q : QD} {E : QE} (g1 : Γ.gv "MOST_TEXT" = some (.int 200)) (hl : t.length ≤ 1000000) (ha : S a = none) (hf : fs.length ≤ t.length) (hp2 : Pl t k2 r2) (h : RdEnd t S Q (textR r)) (hs : scanT r = (scanT r2).map fun p => (fs ++ p.1, p.2))
    (hr : r2 = [] ∨ ∃ r3, r2 = 34 :: r3) : rdSs Γ (x_text_at.drop 3) (bodyEnds Q E) [some (.str t), some (.int k), some (.ref a), some (.int k2)] (S.upd a (.lst (fs.map fun c => .str [c]))) := by
  simp only [x_text_at, List.drop_succ_cons, List.drop_zero]
  have no : textR r = none → reQ Q .non (S.upd a (.lst (fs.map fun c => .str [c]))) := fun e => ⟨.non, S, DS.le_upd (DS.le_refl S) ha, .same, h.1 e⟩
  simp [-Bool.exists_bool, g1]
  rcases hr with rfl | ⟨r3, rfl⟩
  · have e1 := hp2.len
    have e2 := hp2.1
    simp at e1
    rw [if_pos (by omega)]
    exact no (by unfold textR; rw [hs]; rfl)
  · have e3 := drop_lt hp2.2
    have es : scanT r = some (fs, r3) := by
      rw [hs]
      unfold scanT
      simp
    rw [if_neg (by omega)]
    split
    · rename_i h2
      exact no (by unfold textR; rw [es]; simp; omega)
    · rename_i h2
      have e : (fs.map fun c => D.str [c]) = (fs.map fun c => [c]).map D.str := by rw [List.map_map]; rfl
      have e4 : joinL [] (fs.map fun c => [c]) = fs := by
        rw [joinL_nil]
        exact flat1 fs
      have e5 : ((fs.map fun c => [c]).map (·.length)).sum = fs.length := by
        exact sum1 fs
      refine ⟨fs.map fun c => [c], e, by rw [e5]; omega, ?_⟩
      rw [e4]
      have hq := h.2 (.str fs) r3 (k2 + 1) (by unfold textR; rw [es]; simp; omega) hp2.next
      exact ⟨_, S, DS.le_upd (DS.le_refl S) ha, .same, hq⟩
theorem b_text_at (g1 : Γ.gv "MOST_TEXT" = some (.int 200)) (g2 : Γ.gd "ESCAPES" = some escL) : BodyOk Γ x_text_at 2 4 sp_text_at := by
  rintro ds S Q E ⟨t, k, r, rfl, hl, hp, h⟩
  refine ⟨rfl, ?_⟩
  have R := fun k2 r2 fs a ha hf a1 a2 a3 => text_end (E := E) (k := k) (k2 := k2) (r := r) (r2 := r2) (fs := fs) (a := a) (S := S) (Q := Q) g1 hl ha hf a1 h a2 a3
  rw [show x_text_at = x_text_at.take 3 ++ x_text_at.drop 3 from rfl]
  generalize x_text_at.drop 3 = rest at R
  simp only [x_text_at, List.take_succ_cons, List.take_zero]
  simp [-Bool.exists_bool, st0]
  intro a ha
  refine whl_ind (fun m σ S' => ∃ k2 r2 fs, σ = [some (.str t), some (.int (k : Nat)), some (.ref a), some (.int (k2 : Nat))] ∧ S' = S.upd a (.lst (fs.map fun c => .str [c])) ∧ Pl t k2 r2 ∧ fs.length ≤ k2 ∧ scanT r = (scanT r2).map (fun p => (fs ++ p.1, p.2)) ∧ m = r2.length) r.length
    ⟨k + 1, r, [], rfl, rfl, hp.next, by simp, by cases scanT r <;> rfl, rfl⟩ ?_
  rintro m σ S' ⟨k2, r2, fs, rfl, rfl, hp2, hf, hs, rfl⟩
  have hk2 := hp2.1
  have none_ : textR r = none → reQ Q .non (S.upd a (.lst (fs.map fun c => .str [c]))) := fun e => ⟨.non, S, DS.le_upd (DS.le_refl S) ha, .same, h.1 e⟩
  simp [-Bool.exists_bool, g2]
  cases r2 with
  | nil =>
    have e1 := hp2.len
    simp at e1
    rw [if_neg (by omega)]
    exact R k2 [] fs a ha (by omega) hp2 hs (.inl rfl)
  | cons c r2 =>
    have e3 := drop_lt hp2.2
    rw [if_pos (by omega)]
    refine ⟨c, hp2.at, ?_⟩
    by_cases h34 : c = 34
    · subst h34
      simp
      exact R k2 (34 :: r2) fs a ha (by omega) hp2 hs (.inr ⟨_, rfl⟩)
    · simp [h34]
      refine ⟨c, hp2.at, ?_⟩
      have hc1 : cut t (some ((k2 : Int) + 1)) (some ((k2 : Int) + 2)) = r2.take 1 := by rw [cut_2, hp2.next.2]
      by_cases h92 : c = 92
      · subst h92
        rw [if_pos rfl, hc1]
        cases r2 with
        | nil =>
          simp [escL_nil]
          refine none_ ?_
          unfold textR
          rw [hs]
          unfold scanT
          simp
        | cons e r3 =>
          have ha1 : atI t ((k2 : Int) + 1) = some e := hp2.next.at
          simp [escL_one, ha1]
          cases he : escOf e with
          | none =>
            simp
            refine none_ ?_
            unfold textR
            rw [hs]
            unfold scanT
            simp [he]
          | some z =>
            simp
            refine ⟨by omega, _, Nat.lt_succ_of_lt (Nat.lt_succ_self _), k2 + 2, by omega, r3, fs ++ [z], ?_, hp2.next.next, by simp; omega, ?_, rfl⟩
            · simp
            · rw [hs]
              conv => lhs; unfold scanT
              simp [he]
              cases scanT r3 <;> simp
      · rw [if_neg h92]
        refine ⟨c, hp2.at, by omega, _, Nat.lt_succ_self _, k2 + 1, by omega, r2, fs ++ [c], by simp, hp2.next, by simp; omega, ?_, rfl⟩
        rw [hs]
        conv => lhs; unfold scanT
        simp [h34, h92]
        cases scanT r2 <;> simp
end
end PV

set_option linter.all false
set_option autoImplicit false
set_option maxHeartbeats 1000000
namespace PV
open PySem PySem.Spec PyProof.Rows L2 TL DL K01
def singleOf (r : Tx) : Option (D × Tx) := if r.take 1 = [34] then textR (r.drop 1) else if r.take 3 = [121, 101, 115] then some (.bl true, r.drop 3) else if r.take 2 = [110, 111] then some (.bl false, r.drop 2) else (numOf r).map fun p => (.int p.1, p.2)
def itemsR : Nat → List D → Tx → Option (D × Tx)
  | 0, _, _ => none
  | n + 1, its, r => match singleOf r with
    | none => none
    | some (v, r') => if its.length = 20 then none else if (lstripT r').take 1 = [93] then some (.lst (its ++ [v]), (lstripT r').drop 1)
      else if (lstripT r').take 1 = [44] then itemsR n (its ++ [v]) (lstripT ((lstripT r').drop 1)) else none
def valueOf (r : Tx) : Option (D × Tx) := if r.take 1 = [91] then (if (lstripT (r.drop 1)).take 1 = [93] then some (.lst [], (lstripT (r.drop 1)).drop 1) else itemsR 21 [] (lstripT (r.drop 1))) else singleOf r
def sp_single_at : DSp := fun ds S Q _ => ∃ t k r, ds = [.str t, .int (k : Nat)] ∧ t.length ≤ 1000000 ∧ Pl t k r ∧ RdEnd t S Q (singleOf r)
def sp_value_at : DSp := fun ds S Q _ => ∃ t k r, ds = [.str t, .int (k : Nat)] ∧ t.length ≤ 1000000 ∧ Pl t k r ∧ RdEnd t S Q (valueOf r)
theorem take1 {r : Tx} {c : Nat} (h : r.take 1 = [c]) : r = c :: r.drop 1 := by
  cases r with
  | nil => cases h
  | cons x r => simp at h; rw [h]; rfl
theorem Pl.skip {t : Tx} {k : Nat} {r : Tx} (h : Pl t k r) {n : Nat} (hn : n ≤ r.length) : Pl t (k + n) (r.drop n) := by
  have := h.len
  have h1 := h.1
  exact ⟨by omega, by rw [← h.2, List.drop_drop]⟩
theorem take_len {r w : Tx} {n : Nat} (h : r.take n = w) (hw : w.length = n) : n ≤ r.length := by
  rw [← h, List.length_take] at hw; omega
section
variable {Γ : Gam}
theorem use_blanks {t : Tx} {k : Nat} {r : Tx} {S : DS} {Q : QD} {E : QE} (hp : Pl t k r) (h : ∀ k', Pl t k' (lstripT r) → Q (.int (k' : Nat)) S) : sp_blanks [.str t, .int (k : Nat)] S Q E := ⟨t, k, r, rfl, hp, h⟩
theorem use_single {t : Tx} {k : Nat} {r : Tx} {S : DS} {Q : QD} {E : QE} (hl : t.length ≤ 1000000) (hp : Pl t k r) (h : RdEnd t S Q (singleOf r)) : sp_single_at [.str t, .int (k : Nat)] S Q E := ⟨t, k, r, rfl, hl, hp, h⟩
theorem b_single_at (f1 : Γ.fn "text_at" = some sp_text_at) (f2 : Γ.fn "number_at" = some sp_number_at) : BodyOk Γ x_single_at 2 4 sp_single_at := by
  rintro ds S Q E ⟨t, k, r, rfl, hl, hp, h⟩
  refine ⟨rfl, ?_⟩
  unfold x_single_at
  have hk := hp.1
  simp [-Bool.exists_bool, st0, hp.one, f1, f2, q_sFor, forD, startsAt]
  rw [hp.2]
  unfold singleOf at h
  split
  · rename_i h34
    rw [if_pos h34] at h
    have hr := take1 h34
    refine ⟨t, k, r.drop 1, rfl, hl, hr ▸ hp, ?_, ?_⟩
    · exact fun e => reQ.mk (h.1 e)
    · exact fun v r' k' e p => reQ.mk (h.2 v r' k' e p)
  · rename_i h34
    rw [if_neg h34] at h
    refine ⟨by omega, ?_⟩
    split
    · rename_i hy
      rw [if_pos hy] at h
      exact reQ.mk (h.2 _ _ _ rfl (hp.skip (take_len hy rfl)))
    · rename_i hy
      rw [if_neg hy] at h
      split
      · rename_i hn
        rw [if_pos hn] at h
        exact ⟨hk, reQ.mk (h.2 _ _ _ rfl (hp.skip (take_len hn rfl)))⟩
      · rename_i hn
        rw [if_neg hn] at h
        refine ⟨hk, t, k, r, rfl, hl, hp, fun e => ?_, fun v r' k' e p => ?_⟩
        · exact reQ.mk (h.1 (by rw [e]; rfl))
        · exact reQ.mk (h.2 _ _ _ (by rw [e]; rfl) p)
theorem b_value_at (f1 : Γ.fn "single_at" = some sp_single_at) (f2 : Γ.fn "blanks_from" = some sp_blanks) (g1 : Γ.gv "MOST_ITEMS" = some (.int 20)) : BodyOk Γ x_value_at 2 4 sp_value_at := by
  rintro ds S Q E ⟨t, k, r, rfl, hl, hp, h⟩
  refine ⟨rfl, ?_⟩
  unfold x_value_at
  simp [-Bool.exists_bool, st0, hp.one, f1, f2]
  unfold valueOf at h
  split
  · rename_i h91
    rw [if_pos h91] at h
    intro a ha
    have hr := take1 h91
    have hp1 : Pl t (k + 1) (r.drop 1) := hp.skip (take_len h91 rfl)
    refine use_blanks (k := k + 1) hp1 fun k1 hp2 => ?_
    have fin : ∀ {v : List D} {k' : Nat}, Q (.tup [.lst v, .int k']) S → reQ Q (.tup [.ref a, .int k']) (S.upd a (.lst v)) := fun hq => ⟨_, S, DS.le_upd (DS.le_refl S) ha, .tup (.cons (.ref ha (by simp) .same) (.cons .same .nil)), hq⟩
    simp [-Bool.exists_bool, -List.drop_one, hp2.one]
    split
    · rename_i h93
      rw [if_pos h93] at h
      have hq := h.2 _ _ _ rfl (hp2.skip (take_len h93 rfl))
      exact fin hq
    · rename_i h93
      rw [if_neg h93] at h
      refine whl_ind (fun m σ S' => ∃ k2 r2 its x, σ = [some (.str t), some (.int (k2 : Nat)), some (.ref a), x] ∧ S' = S.upd a (.lst its) ∧ Pl t k2 r2 ∧ its.length ≤ 20 ∧ RdEnd t S Q (itemsR (21 - its.length) its r2) ∧ m = 21 - its.length) 21
        ⟨k1, _, [], none, rfl, rfl, hp2, by simp, h, rfl⟩ ?_
      rintro m σ S' ⟨k2, r2, its, x, rfl, rfl, hp3, hi, hR, rfl⟩
      have none_ : ∀ {c : Cell}, itemsR (21 - its.length) its r2 = none → reQ Q .non (S.upd a c) := fun e => ⟨.non, S, DS.le_upd (DS.le_refl S) ha, .same, hR.1 e⟩
      have hn : 21 - its.length = (20 - its.length) + 1 := by omega
      rw [hn] at hR none_
      unfold itemsR at hR none_
      simp [-Bool.exists_bool, -List.drop_one, f1, f2]
      refine use_single hl hp3 ⟨fun e => ?_, fun v r' k' e hp4 => ?_⟩
      · simp
        exact none_ (by rw [e])
      · rw [e] at hR none_
        simp [-Bool.exists_bool, -List.drop_one, g1] at hR none_ ⊢
        split
        · rename_i h20
          exact none_ fun hh => absurd h20 (by omega)
        · rename_i h20
          have a0 : atI [v, D.int (k' : Nat)] 0 = some v := at_nat (t := [v, D.int (k' : Nat)]) (k := 0) rfl
          have a1 : atI [v, D.int (k' : Nat)] 1 = some (D.int (k' : Nat)) := at_nat (t := [v, D.int (k' : Nat)]) (k := 1) rfl
          have h20' : ¬ its.length = 20 := fun e => h20 (by omega)
          rw [if_neg h20'] at hR
          replace none_ := fun {c} e => none_ (c := c) fun _ => e
          refine ⟨v, a0, by omega, _, a1, use_blanks hp4 fun k3 hp5 => ?_⟩
          simp [-Bool.exists_bool, -List.drop_one, hp5.one]
          split
          · rename_i h93
            rw [if_pos h93] at hR
            exact fin (hR.2 _ _ _ rfl (hp5.skip (take_len h93 rfl)))
          · rename_i h93
            rw [if_neg h93] at hR none_
            split
            · rename_i h44
              rw [if_pos h44] at hR
              refine use_blanks (k := k3 + 1) (hp5.skip (take_len h44 rfl)) fun k4 hp6 => ?_
              have hln : (its ++ [v]).length = its.length + 1 := by simp
              refine ⟨_, by rw [hln]; omega, k4, rfl, _, its ++ [v], rfl, hp6, by omega, ?_, rfl⟩
              rw [show 21 - (its ++ [v]).length = 20 - its.length by omega]
              exact hR
            · rename_i h44
              rw [if_neg h44] at none_
              exact none_ rfl
  · rename_i h91
    rw [if_neg h91] at h
    refine use_single hl hp ⟨fun e => reQ.mk (h.1 e), fun v r' k' e p => reQ.mk (h.2 v r' k' e p)⟩
def readV (t : Tx) : Option D := if t.all isSign = true then (match valueOf t with
  | some (v, []) => some v
  | _ => none) else none
def sp_read_value : DSp := fun ds S Q E => ∃ t, ds = [.str t] ∧ t.length ≤ 1000000 ∧ (∀ v, readV t = some v → Q v S) ∧ (readV t = none → E badV S)
theorem b_read_value (f1 : Γ.fn "is_sign" = some sp_is_sign) (f2 : Γ.fn "value_at" = some sp_value_at) : BodyOk Γ x_read_value 1 3 sp_read_value := by
  rintro ds S Q E ⟨t, rfl, hl, h1, h2⟩
  refine ⟨rfl, ?_⟩
  unfold x_read_value
  simp [-Bool.exists_bool, -List.drop_one, st0, f1, f2]
  refine ⟨by omega, ?_⟩
  refine comp_map (ι := fun c => D.str [c]) (fun c => .bl (isSign c)) trivial (fun c _ C hC => ?_) ?_
  · simp [sp_is_sign]; exact hC
  · simp [-Bool.exists_bool, -List.drop_one]
    unfold readV at h1 h2
    split
    · rename_i ha
      have ha' : ¬ t.all isSign = true := by simpa using ha
      rw [if_neg ha'] at h2
      exact ⟨by simp [exNames], reE.mk (h2 rfl)⟩
    · rename_i ha
      have ha' : t.all isSign = true := by simpa using ha
      rw [if_pos ha'] at h1 h2
      refine ⟨t, 0, t, rfl, hl, ⟨Nat.zero_le _, rfl⟩, ?_, ?_⟩
      · intro e
        rw [e] at h2
        simp
        exact ⟨by simp [exNames], reE.mk (h2 rfl)⟩
      · intro v r' k' e hp
        have a0 : atI [v, D.int (k' : Nat)] 0 = some v := at_nat (t := [v, D.int (k' : Nat)]) (k := 0) rfl
        have a1 : atI [v, D.int (k' : Nat)] 1 = some (D.int (k' : Nat)) := at_nat (t := [v, D.int (k' : Nat)]) (k := 1) rfl
        rw [e] at h1 h2
        have hlen := hp.len
        have hk := hp.1
        simp [a0, a1]
        cases r' with
        | nil =>
          simp at hlen
          rw [if_pos (by omega)]
          exact reQ.mk (h1 v rfl)
        | cons c r' =>
          rw [List.length_cons] at hlen
          rw [if_neg (by omega)]
          exact ⟨by simp [exNames], reE.mk (h2 rfl)⟩
end
end PV

set_option linter.all false
set_option autoImplicit false
set_option maxHeartbeats 1000000
namespace PV
open PySem PySem.Spec PyProof.Rows L2 TL DL K01
/-! the law's draws: what is drawn is not told, but its bounds -/
def sp_cell : DSp := fun ds S Q _ => ∃ ns k, ds = [.scr ns, .int k] ∧ 0 ≤ k ∧ ∀ v, Q (.int v) S
def sp_mix : DSp := fun ds S Q _ => ∃ ns k, ds = [.scr ns, .int k] ∧ (0 ≤ k ∧ k < 1000000) ∧ ∀ v, 0 ≤ v → Q (.int v) S
def sp_draw : DSp := fun ds S Q _ => ∃ ns t zs m, ds = [.scr ns, .ref t, .int m] ∧ S t = some (.lst zs) ∧ zs.length < 900000 ∧ 0 < m ∧ ∀ v zs', 0 ≤ v → v < m → zs'.length = zs.length + 1 → Q (.int v) (S.upd t (.lst zs'))
def sp_pick : DSp := fun ds S Q _ => ∃ ns t zs xs, ds = [.scr ns, .ref t, .lst xs] ∧ S t = some (.lst zs) ∧ zs.length < 900000 ∧ xs ≠ [] ∧ ∀ x zs', x ∈ xs → zs'.length = zs.length + 1 → Q x (S.upd t (.lst zs'))
def sp_sign : DSp := fun ds S Q _ => ∃ ns t zs, ds = [.scr ns, .ref t] ∧ S t = some (.lst zs) ∧ zs.length < 800000 ∧ ∀ c zs', isSign c = true → zs'.length = zs.length + 2 → Q (.str [c]) (S.upd t (.lst zs'))
section
variable {Γ : Gam}
theorem at_lt {α : Type} {xs : List α} {v : Int} (h0 : 0 ≤ v) (h : v < (xs.length : Int)) : ∃ x, atI xs v = some x ∧ x ∈ xs := by
  obtain ⟨n, rfl⟩ := Int.eq_ofNat_of_zero_le h0
  have hn : n < xs.length := by omega
  refine ⟨xs[n], ?_, List.getElem_mem hn⟩
  unfold atI ixN
  rw [if_pos (by omega), if_pos (by omega)]
  simp [hn]
theorem use_cell {ns : List Int} {k : Int} {S : DS} {Q : QD} {E : QE} (h0 : 0 ≤ k) (h : ∀ v, Q (.int v) S) : sp_cell [.scr ns, .int k] S Q E := ⟨ns, k, rfl, h0, h⟩
theorem use_mix {ns : List Int} {k : Int} {S : DS} {Q : QD} {E : QE} (h0 : 0 ≤ k) (h1 : k < 1000000) (h : ∀ v, 0 ≤ v → Q (.int v) S) : sp_mix [.scr ns, .int k] S Q E := ⟨ns, k, rfl, ⟨h0, h1⟩, h⟩
theorem use_draw {ns : List Int} {t : Addr} {zs : List D} {m : Int} {S : DS} {Q : QD} {E : QE} (ht : S t = some (.lst zs)) (hz : zs.length < 900000) (hm : 0 < m) (h : ∀ v zs', 0 ≤ v → v < m → zs'.length = zs.length + 1 → Q (.int v) (S.upd t (.lst zs'))) : sp_draw [.scr ns, .ref t, .int m] S Q E :=
  ⟨ns, t, zs, m, rfl, ht, hz, hm, h⟩
theorem use_pick {ns : List Int} {t : Addr} {zs xs : List D} {S : DS} {Q : QD} {E : QE} (ht : S t = some (.lst zs)) (hz : zs.length < 900000) (hx : xs ≠ []) (h : ∀ x zs', x ∈ xs → zs'.length = zs.length + 1 → Q x (S.upd t (.lst zs'))) : sp_pick [.scr ns, .ref t, .lst xs] S Q E :=
  ⟨ns, t, zs, xs, rfl, ht, hz, hx, h⟩
theorem use_sign {ns : List Int} {t : Addr} {zs : List D} {S : DS} {Q : QD} {E : QE} (ht : S t = some (.lst zs)) (hz : zs.length < 800000) (h : ∀ c zs', isSign c = true → zs'.length = zs.length + 2 → Q (.str [c]) (S.upd t (.lst zs'))) : sp_sign [.scr ns, .ref t] S Q E :=
  ⟨ns, t, zs, rfl, ht, hz, h⟩
theorem b_cell : BodyOk Γ x__law_cell 2 2 sp_cell := by
  rintro ds S Q E ⟨ns, k, rfl, h0, h⟩
  refine ⟨rfl, ?_⟩
  unfold x__law_cell
  simp [-Bool.exists_bool, st0]
  split
  · exact reQ.mk (h 0)
  · rename_i hn
    have hl : 0 < (ns.length : Int) := by
      cases ns with
      | nil => exact (hn rfl).elim
      | cons _ _ => simp
    obtain ⟨x, hx, _⟩ := at_lt (xs := ns) (v := k % (ns.length : Int)) (Int.emod_nonneg _ (by omega)) (Int.emod_lt_of_pos _ hl)
    exact ⟨by omega, x, hx, reQ.mk (h x)⟩
theorem b_mix (f1 : Γ.fn "_law_cell" = some sp_cell) : BodyOk Γ x__law_mix 2 3 sp_mix := by
  rintro ds S Q E ⟨ns, k, rfl, ⟨h0, hk⟩, h⟩
  refine ⟨rfl, ?_⟩
  unfold x__law_mix
  simp [-Bool.exists_bool, st0, f1]
  refine use_cell h0 fun v => ?_
  simp [-Bool.exists_bool]
  have e1 := Int.emod_nonneg (v + 104729 * (k + 1)) (b := 4294967291) (by omega)
  have e2 := Int.emod_lt_of_pos (v + 104729 * (k + 1)) (b := 4294967291) (by omega)
  generalize (v + 104729 * (k + 1)) % 4294967291 = n at e1 e2 ⊢
  have e3 := Int.emod_nonneg (n ^ 5) (b := 4294967279) (by omega)
  have e4 := Int.emod_lt_of_pos (n ^ 5) (b := 4294967279) (by omega)
  generalize n ^ 5 % 4294967279 = q at e3 e4 ⊢
  have := Int.emod_nonneg (q / 64 * 69621 + q) (b := 4294967231) (by omega)
  refine ⟨by omega, reQ.mk (h _ this)⟩
theorem b_draw (f1 : Γ.fn "_law_mix" = some sp_mix) : BodyOk Γ x__law_draw 3 3 sp_draw := by
  rintro ds S Q E ⟨ns, t, zs, m, rfl, ht, hz, hm, h⟩
  refine ⟨rfl, ?_⟩
  unfold x__law_draw
  simp [-Bool.exists_bool, st0, f1, ht]
  refine ⟨by omega, use_mix (by omega) (by omega) fun v hv => ?_⟩
  simp
  exact ⟨hm, reQ.mk (h _ _ (Int.emod_nonneg _ (by omega)) (Int.emod_lt_of_pos _ hm) (by simp))⟩
theorem b_pick (f1 : Γ.fn "_law_draw" = some sp_draw) : BodyOk Γ x__law_pick 3 3 sp_pick := by
  rintro ds S Q E ⟨ns, t, zs, xs, rfl, ht, hz, hx, h⟩
  refine ⟨rfl, ?_⟩
  unfold x__law_pick
  simp [-Bool.exists_bool, st0, f1]
  refine use_draw ht hz ?_ fun v zs' h0 h1 h2 => ?_
  · cases xs with
    | nil => exact (hx rfl).elim
    | cons _ _ => simp
  · obtain ⟨x, e, hm⟩ := at_lt h0 h1
    simp
    exact ⟨x, e, reQ.mk (h x zs' hm h2)⟩
theorem b_sign (f1 : Γ.fn "_law_draw" = some sp_draw) (f2 : Γ.fn "_law_pick" = some sp_pick) : BodyOk Γ x__law_sign 2 4 sp_sign := by
  rintro ds S Q E ⟨ns, t, zs, rfl, ht, hz, h⟩
  refine ⟨rfl, ?_⟩
  have hs : ∀ c ∈ w_0, isSign c = true := by decide
  unfold x__law_sign
  generalize hsg : w_0 = sg at hs
  have hsl : sg.length = 94 := by rw [← hsg]; rfl
  simp [-Bool.exists_bool, st0, f1, f2]
  refine use_draw ht (by omega) (by decide) fun v zs' h0 h1 h2 => ?_
  simp [-Bool.exists_bool]
  have e : (32 : Int) + v - 32 = v := by omega
  rw [e]
  obtain ⟨c, hc, hm⟩ := at_lt (xs := sg) (v := v) h0 (by omega)
  refine ⟨c, hc, use_pick DS.upd_same (by omega) (by simp) fun x zs2 hx hz2 => ?_⟩
  have key : ∃ c, isSign c = true ∧ x = .str [c] := by
    simp at hx
    rcases hx with rfl | rfl | rfl | rfl | rfl | rfl | rfl | rfl | rfl | rfl <;> first | exact ⟨_, by decide, rfl⟩ | exact ⟨_, hs _ hm, rfl⟩
  obtain ⟨c', hc', rfl⟩ := key
  rw [DS.upd_upd]
  exact reQ.mk (h c' zs2 hc' (by omega))
end
end PV

set_option linter.all false
set_option autoImplicit false
set_option maxHeartbeats 1000000
namespace PV
open PySem PySem.Spec PyProof.Rows L2 TL DL K01
theorem upd2 {S : DS} {t a : Addr} {x c y : Cell} (h : t ≠ a) : ((S.upd t x).upd a c).upd t y = (S.upd t y).upd a c := by
  rw [DS.upd_comm h, DS.upd_upd, DS.upd_comm (Ne.symm h)]
def sp_single : DSp := fun ds S Q _ => ∃ ns t zs, ds = [.scr ns, .ref t] ∧ S t = some (.lst zs) ∧ zs.length < 700000 ∧ ∀ d zs', isSingle d = true → zs'.length ≤ zs.length + 100 → Q d (S.upd t (.lst zs'))
def sp_value : DSp := fun ds S Q _ => ∃ ns t zs, ds = [.scr ns, .ref t] ∧ S t = some (.lst zs) ∧ zs.length < 600000 ∧ ∀ d zs', isValue d = true → zs'.length ≤ zs.length + 3000 → Q d (S.upd t (.lst zs'))
theorem use_gsingle {ns : List Int} {t : Addr} {zs : List D} {S : DS} {Q : QD} {E : QE} (ht : S t = some (.lst zs)) (hz : zs.length < 700000) (h : ∀ d zs', isSingle d = true → zs'.length ≤ zs.length + 100 → Q d (S.upd t (.lst zs'))) : sp_single [.scr ns, .ref t] S Q E := ⟨ns, t, zs, rfl, ht, hz, h⟩
theorem use_gvalue {ns : List Int} {t : Addr} {zs : List D} {S : DS} {Q : QD} {E : QE} (ht : S t = some (.lst zs)) (hz : zs.length < 600000) (h : ∀ d zs', isValue d = true → zs'.length ≤ zs.length + 3000 → Q d (S.upd t (.lst zs'))) : sp_value [.scr ns, .ref t] S Q E := ⟨ns, t, zs, rfl, ht, hz, h⟩
section
variable {Γ : Gam}
theorem text_ok {cs : Tx} (h : ∀ c ∈ cs, c = 10 ∨ isSign c = true) (hl : cs.length ≤ 200) : isSingle (.str cs) = true := by
  simp only [isSingle, isText, Bool.and_eq_true, decide_eq_true_eq, List.all_eq_true]
  refine ⟨by omega, fun c hc => ?_⟩
  rcases h c hc with e | e
  · simp [e]
  · simp [e]
theorem b_single (f1 : Γ.fn "_law_draw" = some sp_draw) (f2 : Γ.fn "_law_pick" = some sp_pick) (f3 : Γ.fn "_law_sign" = some sp_sign) : BodyOk Γ x__law_single 2 6 sp_single := by
  rintro ds S Q E ⟨ns, t, zs, rfl, ht, hz, h⟩
  refine ⟨rfl, ?_⟩
  unfold x__law_single
  simp [-Bool.exists_bool, st0, f1, f2, f3]
  refine use_draw ht (by omega) (by decide) fun v zs1 h0 h1 h2 => ?_
  simp [-Bool.exists_bool]
  split
  · refine use_draw DS.upd_same (by omega) (by decide) fun v2 zs2 k0 k1 k2 => ?_
    simp [-Bool.exists_bool]
    refine use_pick DS.upd_same (by omega) (by simp) fun x zs3 hx k3 => ?_
    have hs : isSingle x = true := by
      simp at hx
      rcases hx with rfl | rfl | rfl | rfl | rfl | rfl <;> first | decide | (simp only [isSingle, decide_eq_true_eq]; omega)
    rw [DS.upd_upd]
    exact reQ.mk (h x zs3 hs (by omega))
  · split
    · refine use_draw DS.upd_same (by omega) (by decide) fun v2 zs2 k0 k1 k2 => ?_
      simp [-Bool.exists_bool]
      exact reQ.mk (h _ zs2 rfl (by omega))
    · refine use_pick DS.upd_same (by omega) (by simp) fun x zs3 hx k3 => ?_
      obtain ⟨m, rfl, hm0, hm1⟩ : ∃ m : Int, x = .int m ∧ 0 < m ∧ m ≤ 30 := by
        simp at hx
        rcases hx with rfl | rfl | rfl <;> exact ⟨_, rfl, by decide, by decide⟩
      refine use_draw DS.upd_same (by omega) hm0 fun v2 zs4 k0 k1 k4 => ?_
      simp [-Bool.exists_bool]
      refine ⟨by omega, by omega, ?_⟩
      refine comp_ind (fun i outs S' => ∃ zs' cs, S' = S.upd t (.lst zs') ∧ zs'.length ≤ zs4.length + 2 * i ∧ outs = cs.map (fun c => D.str [c]) ∧ List.length cs = i ∧ ∀ c ∈ cs, c = 10 ∨ isSign c = true) (fun _ _ _ _ => trivial) ?_ ⟨zs4, [], rfl, by simp, rfl, rfl, by simp⟩ ?_
      · rintro i outs S' hi ⟨zs', cs, rfl, hz', rfl, hc, hcs⟩ C hC
        simp at hi
        simp [-Bool.exists_bool]
        refine use_sign DS.upd_same (by omega) fun c zs5 hs k5 => ?_
        rw [DS.upd_upd]
        refine hC _ _ ⟨zs5, cs ++ [c], rfl, by omega, by simp, by simp [hc], fun x hx => ?_⟩
        rcases List.mem_append.mp hx with e | e
        · exact hcs x e
        · simp at e; subst e; exact .inr hs
      · rintro outs S' ⟨zs', cs, rfl, hz', rfl, hc, hcs⟩ a ha
        simp at hc hz'
        have hta : t ≠ a := fun e => by rw [← e, DS.upd_same] at ha; cases ha
        have hSa : S a = none := by rwa [DS.upd_ne (Ne.symm hta)] at ha
        have hn : v2.toNat ≤ 30 := by omega
        refine use_draw (zs := zs') (by rw [DS.upd_ne hta, DS.upd_same]) (by omega) (by decide) fun v3 zs6 j0 j1 j2 => ?_
        rw [upd2 hta]
        have fin : ∀ (cs : Tx) (zs7 : List D), (∀ c ∈ cs, c = 10 ∨ isSign c = true) → cs.length ≤ 31 → zs7.length ≤ zs.length + 100 →
            ∃ ts : List Tx, (cs.map fun c => D.str [c]) = ts.map D.str ∧ (ts.map (·.length)).sum ≤ 16777216 ∧ reQ Q (.str (joinL [] ts)) ((S.upd t (.lst zs7)).upd a (.lst (cs.map fun c => D.str [c]))) := by
          intro cs zs7 h1 h2 h3
          refine ⟨cs.map fun c => [c], by rw [List.map_map]; rfl, Nat.le_trans (Nat.le_of_eq (sum1 cs)) (by omega), ?_⟩
          rw [joinL_nil, flat1]
          exact ⟨_, S.upd t (.lst zs7), DS.le_upd (DS.le_refl _) (by rw [DS.upd_ne (Ne.symm hta)]; exact hSa), .same, h _ _ (text_ok h1 (by omega)) h3⟩
        simp [-Bool.exists_bool, -List.map_map]
        split
        · refine use_draw (zs := zs6) (by rw [DS.upd_ne hta, DS.upd_same]) (by omega) (by simp) fun v4 zs7 l0 l1 l2 => ?_
          rw [upd2 hta]
          simp [-Bool.exists_bool, -List.map_map]
          refine ⟨by omega, l0, by omega, ?_⟩
          have := fin (cs.take v4.toNat ++ [10] ++ cs.drop v4.toNat) zs7 ?_ ?_ (by omega)
          · simpa [-List.map_map] using this
          · intro c hc
            simp at hc
            rcases hc with hc | hc | hc
            · exact hcs c (List.mem_of_mem_take hc)
            · exact .inl hc
            · exact hcs c (List.mem_of_mem_drop hc)
          · simp; omega
        · exact fin cs zs6 hcs (by omega) (by omega)
end
end PV

set_option linter.all false
set_option autoImplicit false
set_option maxHeartbeats 1000000
namespace PV
open PySem PySem.Spec PyProof.Rows L2 TL DL K01
def sp_written1 : DSp := fun ds S Q _ => ∃ d, ds = [d] ∧ isSingle d = true ∧ Q (.str (singleT d)) S
def sp_written2 : DSp := fun ds S Q _ => ∃ d, ds = [d] ∧ isValue d = true ∧ Q (.str (textOf d)) S
def sp_same1 : DSp := fun ds S Q _ => ∃ d, ds = [d, d] ∧ isSingle d = true ∧ Q (.bl true) S
def sp_same2 : DSp := fun ds S Q _ => ∃ d, ds = [d, d] ∧ isValue d = true ∧ Q (.bl true) S
theorem single_val {d : D} (h : isSingle d = true) : isValue d = true := by
  cases d <;> first | exact h | (simp [isSingle, isText] at h; done)
section
variable {Γ : Gam}
theorem b_value (f1 : Γ.fn "_law_draw" = some sp_draw) (f2 : Γ.fn "_law_pick" = some sp_pick) (f3 : Γ.fn "_law_single" = some sp_single) : BodyOk Γ x__law_value 2 3 sp_value := by
  rintro ds S Q E ⟨ns, t, zs, rfl, ht, hz, h⟩
  refine ⟨rfl, ?_⟩
  unfold x__law_value
  simp [-Bool.exists_bool, st0, f1, f2, f3]
  refine use_draw ht (by omega) (by decide) fun v zs1 h0 h1 h2 => ?_
  simp [-Bool.exists_bool]
  split
  · refine use_gsingle DS.upd_same (by omega) fun d zs2 hd k2 => ?_
    rw [DS.upd_upd]
    exact reQ.mk (h d zs2 (single_val hd) (by omega))
  · refine use_pick DS.upd_same (by omega) (by simp) fun x zs3 hx k3 => ?_
    obtain ⟨m, rfl, hm0, hm1⟩ : ∃ m : Int, x = .int m ∧ 0 < m ∧ m ≤ 21 := by
      simp at hx
      rcases hx with rfl | rfl <;> exact ⟨_, rfl, by decide, by decide⟩
    refine use_draw DS.upd_same (by omega) hm0 fun v2 zs4 k0 k1 k4 => ?_
    simp [-Bool.exists_bool]
    refine ⟨by omega, by omega, ?_⟩
    refine comp_ind (fun i outs S' => ∃ zs', S' = S.upd t (.lst zs') ∧ zs'.length ≤ zs4.length + 100 * i ∧ outs.length = i ∧ ∀ d ∈ outs, isSingle d = true) (fun _ _ _ _ => trivial) ?_ ⟨zs4, rfl, by simp, rfl, by simp⟩ ?_
    · rintro i outs S' hi ⟨zs', rfl, hz', ho, hd⟩ C hC
      simp at hi
      simp [-Bool.exists_bool]
      refine use_gsingle DS.upd_same (by omega) fun d zs5 hs k5 => ?_
      rw [DS.upd_upd]
      refine hC _ _ ⟨zs5, rfl, by omega, by simp [ho], fun x hx => ?_⟩
      rcases List.mem_append.mp hx with e | e
      · exact hd x e
      · simp at e; subst e; exact hs
    · rintro outs S' ⟨zs', rfl, hz', ho, hd⟩
      simp at hz' ho
      refine reQ.mk (h _ zs' ?_ (by omega))
      simp only [isValue, Bool.and_eq_true, decide_eq_true_eq, List.all_eq_true]
      exact ⟨by omega, hd⟩
theorem repl_esc : ∀ s : Tx, repl1 10 [92, 110] (repl1 34 [92, 34] (repl1 92 [92, 92] s)) = s.flatMap esc1
  | [] => rfl
  | c :: s => by
    have ih := repl_esc s
    unfold repl1 at ih ⊢
    rw [List.flatMap_cons, List.flatMap_append, List.flatMap_append, ih, List.flatMap_cons]
    congr 1
    unfold esc1
    by_cases h1 : c = 92
    · subst h1; rfl
    · by_cases h2 : c = 34
      · subst h2; rfl
      · by_cases h3 : c = 10
        · subst h3; rfl
        · simp [h1, h2, h3]
theorem repl_small (c : Nat) (z : Tx) (s : Tx) (hz : z.length = 2) (hs : s.length ≤ 100000) : s.length + (s.length + 1) * z.length ≤ 16777216 ∧ (repl1 c z s).length ≤ 3 * s.length + 2 := by
  have := repl1_len c z s
  rw [hz] at this ⊢
  omega
theorem b_written1 : BodyOk Γ x__law_written 1 2 sp_written1 := by
  rintro ds S Q E ⟨d, rfl, hd, h⟩
  refine ⟨rfl, ?_⟩
  replace h := reQ.mk h
  unfold x__law_written
  cases d <;> try (simp [isSingle, isText] at hd; done)
  · rename_i b
    simp [-Bool.exists_bool, st0, subTy]
    cases b
    · exact ⟨_, at_nat (t := [D.str [110, 111], D.str [121, 101, 115]]) (k := 0) rfl, h⟩
    · exact ⟨_, at_nat (t := [D.str [110, 111], D.str [121, 101, 115]]) (k := 1) rfl, h⟩
  · simp [-Bool.exists_bool, st0, subTy]
    simp only [isSingle, decide_eq_true_eq] at hd
    exact ⟨log2_small hd, by have := numT_len hd; omega, h⟩
  · rename_i s
    have hl := isText_len (s := s) hd
    simp [-Bool.exists_bool, st0, subTy]
    obtain ⟨a1, a2⟩ := repl_small 92 [92, 92] s rfl (by omega)
    obtain ⟨b1, b2⟩ := repl_small 34 [92, 34] (repl1 92 [92, 92] s) rfl (by omega)
    obtain ⟨c1, c2⟩ := repl_small 10 [92, 110] (repl1 34 [92, 34] (repl1 92 [92, 92] s)) rfl (by omega)
    have hq := quoted_len s
    refine ⟨a1, b1, c1, by omega, by omega, ?_⟩
    rw [repl_esc]
    simpa [singleT, quotedT] using h
theorem sum_single {es : List D} (h : ∀ d ∈ es, isSingle d = true) : ((es.map singleT).map fun x : List Nat => x.length).sum ≤ 402 * es.length := by
  induction es with
  | nil => simp
  | cons x xs ih =>
    have h1 := singleT_len (h x (by simp))
    have h2 := ih fun d hd => h d (List.mem_cons_of_mem _ hd)
    simp only [List.map_cons, List.sum_cons, List.length_cons] at h2 ⊢
    have e : List.length (singleT x) ≤ 402 := h1
    omega
theorem join_single {es : List D} (h : ∀ d ∈ es, isSingle d = true) : (joinL [44, 32] (es.map singleT)).length ≤ 404 * es.length := by
  induction es with
  | nil => simp [joinL]
  | cons x xs ih =>
    have h1 := singleT_len (h x (by simp))
    have h2 := ih fun d hd => h d (List.mem_cons_of_mem _ hd)
    cases xs with
    | nil => simp only [List.map_cons, List.map_nil, joinL, List.length_cons, List.length_nil]; omega
    | cons y ys =>
      simp only [List.map_cons, joinL, List.length_append, List.length_cons, List.length_nil] at h2 ⊢
      omega
theorem b_written2 (f1 : Γ.fn "_law_written" = some sp_written1) : BodyOk Γ x__law_written 1 2 sp_written2 := by
  rintro ds S Q E ⟨d, rfl, hd, h⟩
  by_cases hl : ∃ es, d = .lst es
  · obtain ⟨es, rfl⟩ := hl
    refine ⟨rfl, ?_⟩
    replace h := reQ.mk h
    unfold x__law_written
    simp only [isValue, Bool.and_eq_true, decide_eq_true_eq, List.all_eq_true] at hd
    simp [-Bool.exists_bool, st0, subTy, f1]
    refine ⟨by omega, ?_⟩
    refine comp_map0 (fun d => .str (singleT d)) trivial (fun d hm C hC => ?_) ?_
    · simp [sp_written1]
      exact ⟨hd.2 d hm, hC⟩
    · have hs := sum_single hd.2
      have hj := join_single hd.2
      have e : (es.map fun d => D.str (singleT d)) = (es.map singleT).map D.str := by rw [List.map_map]; rfl
      refine ⟨es.map singleT, e, Nat.le_trans (Nat.add_le_add hs (Nat.le_refl _)) (by rw [List.length_map]; omega), by omega, by omega, ?_⟩
      simpa [textOf] using h
  · have h2 : isSingle d = true ∧ textOf d = singleT d := by
      cases d <;> first | exact ⟨hd, rfl⟩ | exact (hl ⟨_, rfl⟩).elim
    rw [h2.2] at h
    exact b_written1 [d] S Q E ⟨d, rfl, h2.1, h⟩
theorem b_same1 : BodyOk Γ x__law_same 2 3 sp_same1 := by
  rintro ds S Q E ⟨d, rfl, hd, h⟩
  refine ⟨rfl, ?_⟩
  replace h := reQ.mk h
  unfold x__law_same
  cases d <;> try (simp [isSingle, isText] at hd; done)
  all_goals simp [-Bool.exists_bool, st0, subTy]; exact h
theorem b_same2 (f1 : Γ.fn "_law_same" = some sp_same1) : BodyOk Γ x__law_same 2 3 sp_same2 := by
  rintro ds S Q E ⟨d, rfl, hd, h⟩
  by_cases hl : ∃ es, d = .lst es
  · obtain ⟨es, rfl⟩ := hl
    refine ⟨rfl, ?_⟩
    replace h := reQ.mk h
    unfold x__law_same
    simp only [isValue, Bool.and_eq_true, decide_eq_true_eq, List.all_eq_true] at hd
    simp [-Bool.exists_bool, st0, subTy, f1]
    refine ⟨by omega, by omega, ?_⟩
    refine comp_map (ι := fun i => D.int (Int.ofNat i)) (fun _ => .bl true) trivial (fun i hi C hC => ?_) ?_
    · simp at hi
      obtain ⟨x, hx, hm⟩ := at_lt (xs := es) (v := (i : Int)) (by omega) (by omega)
      simp [-Bool.exists_bool, sp_same1]
      exact ⟨x, hx, x, hx, x, ⟨rfl, rfl⟩, hd.2 x hm, hC⟩
    · simp [-Bool.exists_bool]
      refine bl_of h ?_
      simp
  · have h2 : isSingle d = true := by
      cases d <;> first | exact hd | exact (hl ⟨_, rfl⟩).elim
    exact b_same1 [d, d] S Q E ⟨d, rfl, h2, h⟩
end
end PV

set_option linter.all false
set_option autoImplicit false
set_option maxHeartbeats 1000000
namespace PV
open PySem PySem.Spec PyProof.Rows L2 TL DL K01
/-- the law's own reading ends: refused, or the value and the rest -/
def TkEnd (S : DS) (Q : QD) (o : Option (D × Tx)) : Prop := (o = none → Q .non S) ∧ ∀ v r', o = some (v, r') → Q (.tup [v, .str r']) S
def listOf (r : Tx) : Option (D × Tx) := if r.take 1 = [93] then some (.lst [], r.drop 1) else itemsR 21 [] r
def sp_take1 : DSp := fun ds S Q _ => ∃ r, ds = [.str r] ∧ r.length ≤ 1000000 ∧ r.take 1 ≠ [91] ∧ TkEnd S Q (singleOf r)
def sp_take_list : DSp := fun ds S Q _ => ∃ r, ds = [.str r] ∧ r.length ≤ 1000000 ∧ TkEnd S Q (listOf r)
def sp_take : DSp := fun ds S Q _ => ∃ r, ds = [.str r] ∧ r.length ≤ 1000000 ∧ TkEnd S Q (valueOf r)
theorem single_brack {r : Tx} (h : r.take 1 = [91]) : singleOf r = none := by
  have hr := take1 h
  rw [hr]
  generalize r.drop 1 = r1
  unfold singleOf
  simp
  unfold numOf
  have e : figs (aft (91 :: r1)) = [] := by
    have h2 : negOf (91 :: r1) = false := rfl
    unfold aft figs
    rw [h2]
    rfl
  rw [e]
  simp [numBad]
section
variable {Γ : Gam}
theorem cut_f1 {t : Tx} : cut t (some 1) none = t.drop 1 := cut_from t 1
theorem cut_f2 {t : Tx} : cut t (some 2) none = t.drop 2 := cut_from t 2
theorem cut_f3 {t : Tx} : cut t (some 3) none = t.drop 3 := cut_from t 3
theorem cut_t1 {t : Tx} : cut t none (some 1) = t.take 1 := cut_to t 1
theorem cut_t2 {t : Tx} : cut t none (some 2) = t.take 2 := cut_to t 2
theorem cut_t3 {t : Tx} : cut t none (some 3) = t.take 3 := cut_to t 3
theorem cut_12 {t : Tx} : cut t (some 1) (some 2) = (t.drop 1).take 1 := cut_nat t 1 2
theorem at_0 {α : Type} {c : α} {r : List α} : atI (c :: r) 0 = some c := at_nat (t := c :: r) (k := 0) rfl
theorem at_1 {α : Type} {c e : α} {r : List α} : atI (c :: e :: r) 1 = some e := at_nat (t := c :: e :: r) (k := 1) rfl
/-- the text's part of take -/
theorem take_text {r : Tx} {S : DS} {Q : QD} {E : QE} (hl : r.length ≤ 1000000) (h91 : r.take 1 ≠ [91]) (h34 : r.take 1 = [34]) (h : TkEnd S Q (singleOf r)) : rdSs Γ (x__law_take.drop 1) (bodyEnds Q E) [some (.str r), none, none, none, none, none, none] S := by
  have hr := take1 h34
  unfold singleOf at h
  rw [if_pos h34] at h
  generalize r.drop 1 = r1 at hr h
  subst hr
  rw [List.length_cons] at hl
  rw [show x__law_take.drop 1 = [x__law_take.getD 1 .pass] ++ x__law_take.drop 2 from rfl]
  generalize x__law_take.drop 2 = rest
  simp only [x__law_take, List.getD_cons_succ, List.getD_cons_zero]
  simp [-Bool.exists_bool, -List.drop_one, cut_t1, cut_f1]
  intro a ha
  refine whl_ind (fun m σ S' => ∃ r2 fs, σ = [some (.str (34 :: r1)), none, none, none, some (.ref a), some (.str r2), none] ∧ S' = S.upd a (.lst (fs.map fun c => .str [c])) ∧ r2.length ≤ r1.length ∧ fs.length + r2.length ≤ r1.length ∧ scanT r1 = (scanT r2).map (fun p => (fs ++ p.1, p.2)) ∧ m = r2.length) r1.length
    ⟨r1, [], rfl, rfl, Nat.le_refl _, by simp, by cases scanT r1 <;> rfl, rfl⟩ ?_
  rintro m σ S' ⟨r2, fs, rfl, rfl, hr2, hf, hs, rfl⟩
  have none_ : textR r1 = none → reQ Q .non (S.upd a (.lst (fs.map fun c => .str [c]))) := fun e => ⟨.non, S, DS.le_upd (DS.le_refl S) ha, .same, h.1 e⟩
  simp [-Bool.exists_bool, -List.drop_one, cut_f1, cut_f2, cut_12]
  cases r2 with
  | nil =>
    simp
    refine none_ ?_
    unfold textR
    rw [hs]; rfl
  | cons c r2 =>
    rw [List.length_cons] at hr2 hf
    simp [at_0]
    by_cases h34 : c = 34
    · subst h34
      have es : scanT r1 = some (fs, r2) := by
        rw [hs]
        unfold scanT
        simp
      simp
      split
      · rename_i h2
        have e : (fs.map fun c => D.str [c]) = (fs.map fun c => [c]).map D.str := by rw [List.map_map]; rfl
        have e4 : joinL [] (fs.map fun c => [c]) = fs := by rw [joinL_nil, flat1]
        refine ⟨fs.map fun c => [c], e, Nat.le_trans (Nat.le_of_eq (sum1 fs)) (by omega), ?_⟩
        rw [e4]
        have hq := h.2 (.str fs) r2 (by unfold textR; rw [es]; simp; omega)
        exact ⟨_, S, DS.le_upd (DS.le_refl S) ha, .same, hq⟩
      · rename_i h2
        refine none_ ?_
        unfold textR; rw [es]; simp; omega
    · simp [h34]
      by_cases h92 : c = 92
      · subst h92
        rw [if_pos rfl]
        cases r2 with
        | nil =>
          simp
          refine none_ ?_
          unfold textR
          rw [hs]
          unfold scanT
          simp
        | cons e r3 =>
          rw [List.length_cons] at hr2 hf
          by_cases he : e = 92 ∨ e = 34 ∨ e = 110
          · have hz : ∃ z, escOf e = some z ∧ z = (if e = 110 then 10 else e) := by
              rcases he with rfl | rfl | rfl <;> exact ⟨_, rfl, rfl⟩
            obtain ⟨z, hz1, hz2⟩ := hz
            have go : ∃ m', m' < r3.length + 1 + 1 ∧ ∃ r2 fs', [some (D.str (34 :: r1)), none, none, none, some (D.ref a), some (D.str r3), none] = [some (D.str (34 :: r1)), none, none, none, some (D.ref a), some (D.str r2), none] ∧ S.upd a (.lst (fs.map (fun c => D.str [c]) ++ [D.str [z]])) = S.upd a (.lst (fs'.map fun c => .str [c])) ∧
                r2.length ≤ r1.length ∧ fs'.length + r2.length ≤ r1.length ∧ scanT r1 = (scanT r2).map (fun p => (fs' ++ p.1, p.2)) ∧ m' = r2.length := by
              refine ⟨r3.length, by omega, r3, fs ++ [z], rfl, by simp, by omega, by simp; omega, ?_, rfl⟩
              rw [hs]
              conv => lhs; unfold scanT
              simp [hz1]
              cases scanT r3 <;> simp
            have hfs : fs.length < 16777216 := by omega
            have go2 := And.intro hfs go
            by_cases h110 : e = 110
            · rw [if_pos h110] at hz2
              subst hz2
              simpa [-Bool.exists_bool, h110, at_1, hfs] using go
            · rw [if_neg h110] at hz2
              subst hz2
              rcases he with rfl | rfl | he
              · simpa [-Bool.exists_bool, at_1, hfs] using go
              · simpa [-Bool.exists_bool, at_1, hfs] using go
              · exact absurd he h110
          · have h1 : e ≠ 92 := fun x => he (.inl x)
            have h2 : e ≠ 34 := fun x => he (.inr (.inl x))
            have h3 : e ≠ 110 := fun x => he (.inr (.inr x))
            have hz : escOf e = none := by unfold escOf; rw [if_neg h1, if_neg h2, if_neg h3]
            have := none_ (by unfold textR; rw [hs]; unfold scanT; simp [hz])
            simpa [-Bool.exists_bool, Ne.symm h1, Ne.symm h2, Ne.symm h3] using this
      · rw [if_neg h92]
        refine ⟨by omega, r2.length, Nat.lt_succ_self _, fs ++ [c], by simp, by omega, by simp; omega, ?_, rfl⟩
        rw [hs]
        conv => lhs; unfold scanT
        simp [h34, h92]
        cases scanT r2 <;> simp
def fstOf (r : Tx) : Nat := if negOf r = true then 1 else 0
theorem take_end {r : Tx} {S : DS} {Q : QD} {E : QE} (hl : r.length ≤ 1000000) (h : TkEnd S Q ((numOf r).map fun p => (D.int p.1, p.2))) :
    rdSs Γ (x__law_take.drop 7) (bodyEnds Q E) [some (.str r), some (.int ((figs (aft r)).length : Nat)), some (.int (fstOf r : Nat)), none, none, none, none] S := by
  simp only [x__law_take, List.drop_succ_cons, List.drop_zero]
  have hfl : fstOf r + (figs (aft r)).length ≤ r.length := by
    have h1 : (figs (aft r)).length ≤ (aft r).length := (List.takeWhile_prefix _).length_le
    by_cases hn : negOf r = true
    · have : 1 ≤ r.length := by
        cases r with
        | nil => cases hn
        | cons _ _ => simp
      have e1 : fstOf r = 1 := by unfold fstOf; rw [if_pos hn]
      have e2 : (aft r).length = r.length - 1 := by unfold aft; rw [if_pos hn, List.length_drop]
      omega
    · have e1 : fstOf r = 0 := by unfold fstOf; rw [if_neg hn]
      have e2 : (aft r).length = r.length := by unfold aft; rw [if_neg hn]
      omega
  have hdr : r.drop (fstOf r) = aft r := by
    unfold fstOf aft
    split <;> rfl
  have c1 : cut r (some ((fstOf r : Nat) : Int)) (some (((fstOf r : Nat) : Int) + ((figs (aft r)).length : Nat))) = figs (aft r) := by
    have := cut_nat r (fstOf r) (fstOf r + (figs (aft r)).length)
    rw [Nat.add_sub_cancel_left, hdr, figs_take] at this
    exact this
  have c2 : cut r (some (((fstOf r : Nat) : Int) + ((figs (aft r)).length : Nat))) none = (aft r).dropWhile isFig := by
    have := cut_from r (fstOf r + (figs (aft r)).length)
    rw [← List.drop_drop, hdr] at this
    rw [show (aft r).dropWhile isFig = (aft r).drop (figs (aft r)).length by unfold figs; rw [drop_takeWhile]]
    exact this
  have bad : numBad (negOf r) (figs (aft r)) = true → reQ Q .non S := fun e => reQ.mk (h.1 (by unfold numOf; rw [if_pos e]; rfl))
  have good : numBad (negOf r) (figs (aft r)) = false → (figs (aft r)).length ≠ 0 → (figs (aft r)).length ≤ 9 → PySem.intText? (tS (figs (aft r))) = some ((NumText.digitsVal (figs (aft r)) : Nat) : Int) ∧ reQ Q (.tup [.int (((NumText.digitsVal (figs (aft r)) : Nat) : Int) * (1 - 2 * ((fstOf r : Nat) : Int))), .str ((aft r).dropWhile isFig)]) S := by
    intro nb n0 n9
    have hne : figs (aft r) ≠ [] := fun e => n0 (by rw [e]; rfl)
    constructor
    · have := PySem.intText_digits (x := tS (figs (aft r))) (by rw [tS_cps]; exact figs_all _) (by rw [tS_cps]; exact hne) (by rw [tS_length]; omega)
      rwa [tS_cps] at this
    · have := h.2 (.int (if negOf r then -((NumText.digitsVal (figs (aft r)) : Nat) : Int) else ((NumText.digitsVal (figs (aft r)) : Nat) : Int))) _ (by unfold numOf; rw [nb]; rfl)
      have e : (((NumText.digitsVal (figs (aft r)) : Nat) : Int) * (1 - 2 * ((fstOf r : Nat) : Int))) = (if negOf r then -((NumText.digitsVal (figs (aft r)) : Nat) : Int) else ((NumText.digitsVal (figs (aft r)) : Nat) : Int)) := by
        unfold fstOf
        split <;> simp
      rw [e]
      exact reQ.mk this
  have hf1 : ((fstOf r : Nat) : Int) = 1 ↔ negOf r = true := by
    unfold fstOf
    split <;> simp_all
  have hf2 : fstOf r ≤ 1 := by unfold fstOf; split <;> omega
  simp [-Bool.exists_bool, c1]
  generalize hf : figs (aft r) = f at *
  cases f with
  | nil => simpa using bad (by simp [numBad])
  | cons c f =>
    have n0 : (c :: f).length ≠ 0 := by simp
    have go : numBad (negOf r) (c :: f) = false → (c :: f).length ≤ 9 → ∃ n, intText? (tS (c :: f)) = some n ∧ (c :: f).length ≤ 640 ∧ (-18446744073709551616 < n ∧ n < 18446744073709551616 ∨
        -18446744073709551616 < 1 - 2 * (fstOf r : Int) ∧ 1 - 2 * (fstOf r : Int) < 18446744073709551616) ∧ reQ Q (.tup [.int (n * (1 - 2 * ((fstOf r : Nat) : Int))), .str ((aft r).dropWhile isFig)]) S := fun nb n9 => by
      obtain ⟨g1, g2⟩ := good nb n0 n9
      exact ⟨_, g1, by omega, .inr (by omega), g2⟩
    rw [c2, if_neg (by simp)]
    split
    · rename_i h9
      simp only [List.length_cons] at h9
      exact bad (by unfold numBad; simp; omega)
    · rename_i h9
      have h9' : (c :: f).length ≤ 9 := by omega
      refine ⟨c, at_0, ?_⟩
      by_cases h48 : c = 48
      · rw [if_pos h48]
        by_cases hf0 : f = []
        · have e1 : (c :: f) = [48] := by rw [h48, hf0]
          simp only [e1, if_true] at go bad ⊢
          split
          · rename_i h1
            exact bad (by unfold numBad; simp [hf1.mp h1])
          · rename_i h1
            have hn : negOf r = false := by
              cases e : negOf r with
              | false => rfl
              | true => exact (h1 (hf1.mpr e)).elim
            exact go (by unfold numBad; simp [hn]) (by decide)
        · have e1 : ¬ (c :: f) = [48] := fun e => hf0 (by simpa [h48] using e)
          rw [if_neg e1]
          have hl2 : 0 < f.length := List.length_pos_iff.mpr hf0
          exact bad (by unfold numBad; simp [h48]; omega)
      · rw [if_neg h48]
        have e1 : ¬ (c :: f) = [48] := fun e => h48 (by simp at e; exact e.1)
        rw [if_neg e1]
        simp only [List.length_cons] at h9'
        exact go (by unfold numBad; simp [h48]; omega) (by simp; omega)
theorem take_num {r : Tx} {S : DS} {Q : QD} {E : QE} (hl : r.length ≤ 1000000) (h : TkEnd S Q ((numOf r).map fun p => (D.int p.1, p.2))) :
    rdSs Γ (x__law_take.drop 4) (bodyEnds Q E) [some (.str r), none, none, none, none, none, none] S := by
  have R := take_end (Γ := Γ) (E := E) hl h
  rw [show x__law_take.drop 4 = (x__law_take.drop 4).take 3 ++ x__law_take.drop 7 from rfl]
  generalize x__law_take.drop 7 = rest at R
  simp only [x__law_take, List.drop_succ_cons, List.drop_zero, List.take_succ_cons, List.take_zero]
  have hdr : r.drop (fstOf r) = aft r := by
    unfold fstOf aft
    split <;> rfl
  have hp0 : Pl r (fstOf r) (aft r) := by
    refine ⟨?_, hdr⟩
    unfold fstOf
    split
    · rename_i hn
      cases r with
      | nil => cases hn
      | cons _ _ => simp
    · omega
  have key : ∀ (K : Int → Prop), K ((fstOf r : Nat) : Int) → (if r.take 1 = [45] then K 1 else K 0) := fun K hK => by
    unfold fstOf negOf at hK
    by_cases hn : r.take 1 = [45]
    · rw [if_pos hn]; simpa [hn] using hK
    · rw [if_neg hn]; simpa [hn] using hK
  simp [-Bool.exists_bool, cut_t1]
  refine key (fun z => sWhl _ _ _ [some (.str r), some (.int 0), some (.int z), none, none, none, none] S) ?_
  refine whl_ind (fun m σ S' => ∃ (n : Nat) (r' : Tx), σ = [some (.str r), some (.int (n : Nat)), some (.int (fstOf r : Nat)), none, none, none, none] ∧ S' = S ∧ Pl r (fstOf r + n) r' ∧ n + (figs r').length = (figs (aft r)).length ∧ m = r'.length) (aft r).length
    ⟨0, aft r, rfl, rfl, hp0, by simp, rfl⟩ ?_
  rintro m σ S' ⟨n, r', rfl, rfl, hp2, hf, rfl⟩
  have c1 : cut r (some (((fstOf r : Nat) : Int) + (n : Int))) (some (((fstOf r : Nat) : Int) + (n : Int) + 1)) = r'.take 1 := hp2.one
  simp [-Bool.exists_bool, c1]
  refine comp_map0 (fun d => d) trivial (fun x hx C hC => by simpa using hC) ?_
  cases r' with
  | nil =>
    rw [show (figs ([] : Tx)).length = 0 from rfl, Nat.add_zero] at hf
    simp [-Bool.exists_bool]
    rw [hf]; exact R
  | cons c r' =>
    have hm := mem_figs (c := c)
    simp only [List.mem_cons, List.not_mem_nil, or_false] at hm
    simp [-Bool.exists_bool]
    by_cases hc : isFig c = true
    · rw [hc, decide_eq_true_eq] at hm
      rw [if_pos (by rcases hm with h | h | h | h | h | h | h | h | h | h <;> simp [h])]
      refine ⟨_, Nat.lt_succ_self _, n + 1, by omega, r', hp2.next, ?_, rfl⟩
      rw [← hf]; unfold figs; rw [List.takeWhile_cons_of_pos hc, List.length_cons]; omega
    · have hc' : isFig c = false := by simpa using hc
      rw [hc', decide_eq_false_iff_not] at hm
      rw [if_neg (by intro h; apply hm; rcases h with h | h | h | h | h | h | h | h | h | h <;> simp [h])]
      have e : figs (c :: r') = [] := by unfold figs; rw [List.takeWhile_cons_of_neg hc]
      rw [e] at hf
      simp at hf
      rw [hf]; exact R
theorem take_one {r : Tx} {S : DS} {Q : QD} {E : QE} (hl : r.length ≤ 1000000) (h91 : r.take 1 ≠ [91]) (h : TkEnd S Q (singleOf r)) : rdSs Γ (x__law_take.drop 1) (bodyEnds Q E) [some (.str r), none, none, none, none, none, none] S := by
  by_cases h34 : r.take 1 = [34]
  · exact take_text hl h91 h34 h
  · unfold singleOf at h
    rw [if_neg h34] at h
    have R := fun a => take_num (Γ := Γ) (r := r) (S := S) (Q := Q) (E := E) hl a
    rw [show x__law_take.drop 1 = (x__law_take.drop 1).take 3 ++ x__law_take.drop 4 from rfl]
    generalize x__law_take.drop 4 = rest at R
    simp only [x__law_take, List.drop_succ_cons, List.drop_zero, List.take_succ_cons, List.take_zero]
    simp [-Bool.exists_bool, cut_t1, cut_t2, cut_t3, cut_f2, cut_f3, h34]
    split
    · rename_i hy
      rw [if_pos hy] at h
      exact reQ.mk (h.2 _ _ rfl)
    · rename_i hy
      rw [if_neg hy] at h
      split
      · rename_i hn
        rw [if_pos hn] at h
        exact reQ.mk (h.2 _ _ rfl)
      · rename_i hn
        rw [if_neg hn] at h
        exact R h
theorem b_take1 : BodyOk Γ x__law_take 1 7 sp_take1 := by
  rintro ds S Q E ⟨r, rfl, hl, h91, h⟩
  refine ⟨rfl, ?_⟩
  have R := take_one (Γ := Γ) (E := E) hl h91 h
  rw [show x__law_take = x__law_take.take 1 ++ x__law_take.drop 1 from rfl]
  generalize x__law_take.drop 1 = rest at R
  simp only [x__law_take, List.take_succ_cons, List.take_zero]
  simp [-Bool.exists_bool, st0, cut_t1, h91]
  exact R
theorem b_take (f1 : Γ.fn "_law_take_list" = some sp_take_list) : BodyOk Γ x__law_take 1 7 sp_take := by
  rintro ds S Q E ⟨r, rfl, hl, h⟩
  by_cases h91 : r.take 1 = [91]
  · refine ⟨rfl, ?_⟩
    unfold x__law_take
    simp [-Bool.exists_bool, -List.drop_one, st0, cut_t1, cut_f1, h91, f1]
    unfold valueOf at h
    rw [if_pos h91] at h
    refine ⟨lstripT (r.drop 1), rfl, ?_, fun e => reQ.mk (h.1 e), fun v r' e => reQ.mk (h.2 v r' e)⟩
    have := (List.dropWhile_sublist (p := (· == 32)) (l := r.drop 1)).length_le
    rw [List.length_drop] at this
    unfold lstripT
    omega
  · refine b_take1 [.str r] S Q E ⟨r, rfl, hl, h91, ?_⟩
    unfold valueOf at h
    rwa [if_neg h91] at h
theorem scan_len : ∀ (n : Nat) (r : Tx) {p : Tx × Tx}, r.length ≤ n → scanT r = some p → p.2.length ≤ r.length
  | 0, r, p, hn, h => by
    have : r = [] := List.length_eq_zero_iff.mp (by omega)
    subst this; cases h
  | n + 1, [], p, hn, h => by cases h
  | n + 1, c :: r, p, hn, h => by
    rw [List.length_cons] at hn ⊢
    unfold scanT at h
    split at h
    · cases h; exact Nat.le_succ _
    · split at h
      · cases r with
        | nil => cases h
        | cons e r =>
          simp only at h
          split at h
          · cases h
          · rw [Option.map_eq_some_iff] at h
            obtain ⟨q, h1, h2⟩ := h
            have := scan_len n r (by rw [List.length_cons] at hn; omega) h1
            rw [← h2, List.length_cons]; simp; omega
      · rw [Option.map_eq_some_iff] at h
        obtain ⟨q, h1, h2⟩ := h
        have := scan_len n r (by omega) h1
        rw [← h2]; simp; omega
theorem single_len {r : Tx} {v : D} {r' : Tx} (h : singleOf r = some (v, r')) : r'.length ≤ r.length := by
  unfold singleOf at h
  split at h
  · unfold textR at h
    split at h
    · cases h
    · rename_i p hp
      have := scan_len _ _ (Nat.le_refl _) hp
      split at h
      · cases h
      · cases h
        rw [List.length_drop] at this; omega
  · split at h
    · cases h; rw [List.length_drop]; omega
    · split at h
      · cases h; rw [List.length_drop]; omega
      · rw [Option.map_eq_some_iff] at h
        obtain ⟨q, h1, h2⟩ := h
        cases h2
        unfold numOf at h1
        split at h1
        · cases h1
        · cases h1
          have h3 := (List.dropWhile_sublist (p := isFig) (l := aft r)).length_le
          have h4 : (aft r).length ≤ r.length := by
            unfold aft; split
            · rw [List.length_drop]; omega
            · exact Nat.le_refl _
          simp; omega
theorem strip_len (r : Tx) : (lstripT r).length ≤ r.length := (List.dropWhile_sublist _).length_le
theorem b_take_list (f1 : Γ.fn "_law_take" = some sp_take1) : BodyOk Γ x__law_take_list 1 3 sp_take_list := by
  rintro ds S Q E ⟨r, rfl, hl, h⟩
  refine ⟨rfl, ?_⟩
  unfold x__law_take_list
  simp [-Bool.exists_bool, -List.drop_one, st0, cut_t1, cut_f1, f1]
  intro a ha
  unfold listOf at h
  have fin : ∀ {v : List D} {r' : Tx}, Q (.tup [.lst v, .str r']) S → reQ Q (.tup [.ref a, .str r']) (S.upd a (.lst v)) := fun hq => ⟨_, S, DS.le_upd (DS.le_refl S) ha, .tup (.cons (.ref ha (by simp) .same) (.cons .same .nil)), hq⟩
  split
  · rename_i h93
    rw [if_pos h93] at h
    exact fin (h.2 _ _ rfl)
  · rename_i h93
    rw [if_neg h93] at h
    refine whl_ind (fun m σ S' => ∃ (r2 : Tx) (its : List D) (x : Option D), σ = [some (.str r2), some (.ref a), x] ∧ S' = S.upd a (.lst its) ∧ r2.length ≤ 1000000 ∧ its.length ≤ 20 ∧ TkEnd S Q (itemsR (21 - its.length) its r2) ∧ m = 21 - its.length) 21
      ⟨r, [], none, rfl, rfl, hl, by simp, h, rfl⟩ ?_
    rintro m σ S' ⟨r2, its, x, rfl, rfl, hl2, hi, hR, rfl⟩
    have none_ : ∀ {c : Cell}, itemsR (21 - its.length) its r2 = none → reQ Q .non (S.upd a c) := fun e => ⟨.non, S, DS.le_upd (DS.le_refl S) ha, .same, hR.1 e⟩
    have hn : 21 - its.length = (20 - its.length) + 1 := by omega
    rw [hn] at hR none_
    unfold itemsR at hR none_
    simp [-Bool.exists_bool, -List.drop_one, cut_t1, f1]
    split
    · rename_i h91
      exact none_ (by rw [single_brack h91])
    · rename_i h91
      refine ⟨r2, rfl, hl2, h91, fun e => ?_, fun v r' e => ?_⟩
      · simp
        exact none_ (by rw [e])
      · have hl3 := single_len e
        have hl4 := strip_len r'
        rw [e] at hR none_
        simp [-Bool.exists_bool, -List.drop_one, cut_t1, cut_f1] at hR none_ ⊢
        split
        · rename_i h20
          exact none_ fun hh => absurd h20 (by omega)
        · rename_i h20
          have h20' : ¬ its.length = 20 := fun e => h20 (by omega)
          rw [if_neg h20'] at hR
          replace none_ := fun {c} e => none_ (c := c) fun _ => e
          simp [-Bool.exists_bool, -List.drop_one, at_0, at_1, cut_t1, cut_f1]
          refine ⟨by omega, ?_⟩
          split
          · rename_i h93
            rw [if_pos h93] at hR
            exact fin (hR.2 _ _ rfl)
          · rename_i h93
            rw [if_neg h93] at hR none_
            split
            · rename_i h44
              rw [if_pos h44] at hR
              have hl5 := strip_len ((lstripT r').drop 1)
              rw [List.length_drop] at hl5
              have hln : (its ++ [v]).length = its.length + 1 := by simp
              refine ⟨_, by rw [hln]; omega, its ++ [v], rfl, by omega, by omega, ?_, rfl⟩
              rw [show 21 - (its ++ [v]).length = 20 - its.length by omega]
              exact hR
            · rename_i h44
              rw [if_neg h44] at none_
              exact none_ rfl
end
end PV

set_option linter.all false
set_option autoImplicit false
set_option maxHeartbeats 1000000
namespace PV
open PySem PySem.Spec PyProof.Rows L2 TL DL K01
abbrev wRefused : Tx := [114, 101, 102, 117, 115, 101, 100]
abbrev wValue : Tx := [118, 97, 108, 117, 101]
abbrev wFound : Tx := [102, 111, 117, 110, 100]
def refV : D := .tup [.str wRefused, .str wValue]
def sp_refusal : DSp := fun ds S Q _ => ∃ a, ds = [.exc a "BadValue" []] ∧ Q refV S
def toldD (w : Int) (d : D) : D := if w = 0 then (if isValue d then .tup [.str wFound, .str (kindT d)] else refV) else if w = 1 then (if isValue d then .tup [.str wFound, .str (textOf d)] else refV) else match d with
  | .str t => (match readV t with
    | some v => .tup [.str wFound, v]
    | none => refV)
  | _ => .non
def sp_told : DSp := fun ds S Q _ => ∃ w d, ds = [.int w, d] ∧ PureD d ∧ (w = 0 ∨ w = 1 ∨ (w = 2 ∧ ∃ t, d = .str t)) ∧ Q (toldD w d) S
section
variable {Γ : Gam}
theorem b_refusal : BodyOk Γ x__law_refusal 1 3 sp_refusal := by
  rintro ds S Q E ⟨a, rfl, h⟩
  refine ⟨rfl, ?_⟩
  unfold x__law_refusal
  simp [-Bool.exists_bool, st0, exNames, subEx, flatD]
  intro b hb b1 hb1 b2 hb2
  refine ⟨0, rfl, _, at_0, ?_⟩
  refine ⟨_, S, ?_, .same, h⟩
  exact DS.le_upd (DS.le_upd (DS.le_upd (DS.le_refl S) hb) (by
    by_cases e : b1 = b
    · subst e; rw [DS.upd_same] at hb1; cases hb1
    · rwa [DS.upd_ne e] at hb1)) (by
    by_cases e : b2 = b1
    · subst e; rw [DS.upd_same] at hb2; cases hb2
    · rw [DS.upd_ne e] at hb2
      by_cases e : b2 = b
      · subst e; rw [DS.upd_same] at hb2; cases hb2
      · rwa [DS.upd_ne e] at hb2)
theorem use_refusal {a : Addr} {S : DS} {Q : QD} {E : QE} (h : Q refV S) : sp_refusal [.exc a "BadValue" []] S Q E := ⟨a, rfl, h⟩
theorem b_told (f1 : Γ.fn "kind" = some sp_kind) (f2 : Γ.fn "value_text" = some sp_value_text) (f3 : Γ.fn "read_value" = some sp_read_value) (f4 : Γ.fn "_law_refusal" = some sp_refusal) : BodyOk Γ x__law_told 2 5 sp_told := by
  rintro ds S Q E ⟨w, d, rfl, hp, hw, h⟩
  refine ⟨rfl, ?_⟩
  unfold x__law_told
  replace h := reQ.mk h
  have caught : ∀ {D' : DEnds} {su : RS} {σ : St0}, (∀ a, S a = none → su (D'.gone 4) (σ.set 4 (some (.exc a "BadValue" []))) S) → exTry "SettingError" (some 4) su D' badV σ S := fun hh => by
    unfold exTry
    rw [if_pos (by decide)]
    exact hh
  simp [-Bool.exists_bool, st0, f1, f2, f3, f4]
  split
  · rename_i hw0
    subst hw0
    simp only [toldD, if_true] at h
    refine ⟨d, rfl, hp, fun e => ?_, fun e => ?_⟩
    · rw [if_pos e] at h; exact h
    · rw [if_neg (by rw [e]; exact Bool.false_ne_true)] at h
      refine caught fun a ha => ?_
      simp [-Bool.exists_bool, DEnds.gone]
      exact use_refusal h
  · rename_i hw0
    split
    · rename_i hw1
      subst hw1
      simp only [toldD, if_true] at h
      rw [if_neg (by decide)] at h
      refine ⟨d, rfl, hp, fun e => ?_, fun e => ?_⟩
      · rw [if_pos e] at h; exact h
      · rw [if_neg (by rw [e]; exact Bool.false_ne_true)] at h
        refine caught fun a ha => ?_
        simp [-Bool.exists_bool, DEnds.gone]
        exact use_refusal h
    · rename_i hw1
      obtain ⟨rfl, t, rfl⟩ : w = 2 ∧ ∃ t, d = .str t := by
        rcases hw with e | e | e
        · exact absurd e hw0
        · exact absurd e hw1
        · exact e
      simp only [toldD] at h
      rw [if_neg (by decide), if_neg (by decide)] at h
      refine ⟨t, rfl, hp, fun v e => ?_, fun e => ?_⟩
      · rw [e] at h; exact h
      · rw [e] at h
        refine caught fun a ha => ?_
        simp [-Bool.exists_bool, DEnds.gone]
        exact use_refusal h
end
end PV

set_option linter.all false
set_option autoImplicit false
set_option maxHeartbeats 1000000
namespace PV
open PySem PySem.Spec PyProof.Rows L2 TL DL K01
/-! what is read is a value -/
theorem digits_lt : ∀ (l : Tx) (acc : Nat), NumText.AllDigits l → l.foldl (fun a c => a * 10 + (c - 48)) acc < (acc + 1) * 10 ^ l.length
  | [], acc, _ => by simp
  | c :: l, acc, h => by
    have hc := h c (by simp)
    have ih := digits_lt l (acc * 10 + (c - 48)) fun x hx => h x (List.mem_cons_of_mem _ hx)
    rw [List.foldl_cons, List.length_cons, Nat.pow_succ]
    refine Nat.lt_of_lt_of_le ih ?_
    calc (acc * 10 + (c - 48) + 1) * 10 ^ l.length ≤ ((acc + 1) * 10) * 10 ^ l.length := Nat.mul_le_mul_right _ (by omega)
      _ = (acc + 1) * (10 ^ l.length * 10) := by rw [Nat.mul_assoc, Nat.mul_comm 10]
theorem val_lt {l : Tx} (h : NumText.AllDigits l) (hl : l.length ≤ 9) : NumText.digitsVal l < 1000000000 := by
  have := digits_lt l 0 h
  unfold NumText.digitsVal
  refine Nat.lt_of_lt_of_le this ?_
  rw [Nat.zero_add, Nat.one_mul]
  exact Nat.le_trans (Nat.pow_le_pow_right (by decide) hl) (by decide)
theorem scan_ok : ∀ (n : Nat) (r : Tx) {p : Tx × Tx}, r.length ≤ n → (∀ c ∈ r, isSign c = true) → scanT r = some p → (∀ c ∈ p.1, c = 10 ∨ isSign c = true) ∧ ∀ c ∈ p.2, isSign c = true
  | 0, r, p, hn, hs, h => by
    have : r = [] := List.length_eq_zero_iff.mp (by omega)
    subst this; cases h
  | n + 1, [], p, hn, hs, h => by cases h
  | n + 1, c :: r, p, hn, hs, h => by
    rw [List.length_cons] at hn
    have hs2 : ∀ x ∈ r, isSign x = true := fun x hx => hs x (List.mem_cons_of_mem _ hx)
    unfold scanT at h
    split at h
    · cases h; exact ⟨by simp, hs2⟩
    · split at h
      · cases r with
        | nil => cases h
        | cons e r =>
          simp only at h
          split at h
          · cases h
          · rename_i z hz
            rw [Option.map_eq_some_iff] at h
            obtain ⟨q, h1, h2⟩ := h
            obtain ⟨i1, i2⟩ := scan_ok n r (by rw [List.length_cons] at hn; omega) (fun x hx => hs2 x (List.mem_cons_of_mem _ hx)) h1
            rw [← h2]
            refine ⟨fun x hx => ?_, i2⟩
            rcases List.mem_cons.mp hx with e2 | e2
            · subst e2
              unfold escOf at hz
              split at hz
              · cases hz; exact .inr (by decide)
              · split at hz
                · cases hz; exact .inr (by decide)
                · split at hz
                  · cases hz; exact .inl rfl
                  · cases hz
            · exact i1 x e2
      · rw [Option.map_eq_some_iff] at h
        obtain ⟨q, h1, h2⟩ := h
        obtain ⟨i1, i2⟩ := scan_ok n r (by omega) hs2 h1
        rw [← h2]
        refine ⟨fun x hx => ?_, i2⟩
        rcases List.mem_cons.mp hx with e2 | e2
        · subst e2; exact .inr (hs _ (by simp))
        · exact i1 x e2
theorem single_ok {r : Tx} {v : D} {r' : Tx} (hs : ∀ c ∈ r, isSign c = true) (h : singleOf r = some (v, r')) : isSingle v = true ∧ ∀ c ∈ r', isSign c = true := by
  unfold singleOf at h
  split at h
  · unfold textR at h
    split at h
    · cases h
    · rename_i p hp
      obtain ⟨i1, i2⟩ := scan_ok _ _ (Nat.le_refl _) (fun c hc => hs c (List.mem_of_mem_drop hc)) hp
      split at h
      · cases h
      · cases h
        exact ⟨text_ok i1 (by omega), i2⟩
  · split at h
    · cases h; exact ⟨rfl, fun c hc => hs c (List.mem_of_mem_drop hc)⟩
    · split at h
      · cases h; exact ⟨rfl, fun c hc => hs c (List.mem_of_mem_drop hc)⟩
      · rw [Option.map_eq_some_iff] at h
        obtain ⟨q, h1, h2⟩ := h
        cases h2
        unfold numOf at h1
        split at h1
        · cases h1
        · rename_i hb
          cases h1
          have hb' : numBad (negOf r) (figs (aft r)) = false := by simpa using hb
          unfold numBad at hb'
          rw [decide_eq_false_iff_not] at hb'
          have hv := val_lt (figs_all (aft r)) (by omega)
          refine ⟨?_, fun c hc => ?_⟩
          · simp only [isSingle, decide_eq_true_eq]
            split <;> omega
          · have h3 : c ∈ aft r := dropWhile_mem hc
            unfold aft at h3
            split at h3
            · exact hs c (List.mem_of_mem_drop h3)
            · exact hs c h3
theorem items_ok : ∀ (n : Nat) (its : List D) (r : Tx) {v : D} {r' : Tx}, n + its.length = 21 → (∀ d ∈ its, isSingle d = true) → (∀ c ∈ r, isSign c = true) → itemsR n its r = some (v, r') → isValue v = true ∧ ∀ c ∈ r', isSign c = true
  | 0, its, r, v, r', hn, hi, hs, h => by cases h
  | n + 1, its, r, v, r', hn, hi, hs, h => by
    unfold itemsR at h
    split at h
    · cases h
    · rename_i d r1 e
      obtain ⟨s1, s2⟩ := single_ok hs e
      have s3 : ∀ c ∈ lstripT r1, isSign c = true := fun c hc => s2 c (dropWhile_mem hc)
      have hi2 : ∀ x ∈ its ++ [d], isSingle x = true := fun x hx => by
        rcases List.mem_append.mp hx with e | e
        · exact hi x e
        · simp at e; subst e; exact s1
      split at h
      · cases h
      · rename_i h20
        split at h
        · cases h
          refine ⟨?_, fun c hc => s3 c (List.mem_of_mem_drop hc)⟩
          simp only [isValue, Bool.and_eq_true, decide_eq_true_eq, List.all_eq_true]
          exact ⟨by simp; omega, hi2⟩
        · split at h
          · exact items_ok n (its ++ [d]) _ (by simp; omega) hi2 (fun c hc => s3 c (List.mem_of_mem_drop (dropWhile_mem hc))) h
          · cases h
theorem value_ok {r : Tx} {v : D} {r' : Tx} (hs : ∀ c ∈ r, isSign c = true) (h : valueOf r = some (v, r')) : isValue v = true := by
  unfold valueOf at h
  split at h
  · split at h
    · cases h; rfl
    · exact (items_ok 21 [] _ rfl (by simp) (fun c hc => hs c (List.mem_of_mem_drop (dropWhile_mem hc))) h).1
  · exact single_val (single_ok hs h).1
theorem dh_single {d : D} (h : isSingle d = true) : dh d = 0 := by
  cases d <;> first | rfl | (simp [isSingle, isText] at h; done)
theorem dhs_zero : ∀ {l : List D}, (∀ d ∈ l, dh d = 0) → dhs l = 0
  | [], _ => rfl
  | d :: l, h => by
    simp only [dhs, h d (by simp), dhs_zero fun x hx => h x (List.mem_cons_of_mem _ hx)]
    rfl
theorem dh_value {d : D} (h : isValue d = true) : dh d ≤ 1 := by
  by_cases hl : ∃ es, d = .lst es
  · obtain ⟨ds, rfl⟩ := hl
    simp only [isValue, Bool.and_eq_true, List.all_eq_true] at h
    simp only [dh]
    rw [dhs_zero fun d hd => dh_single (h.2 d hd)]
    exact Nat.le_refl _
  · have h2 : isSingle d = true := by
      cases d <;> first | exact h | exact (hl ⟨_, rfl⟩).elim
    rw [dh_single h2]; exact Nat.zero_le _
def sp_is_read : DSp := fun ds S Q _ => ∃ t, ds = [.str t] ∧ t.length ≤ 1000000 ∧ Q (.bl true) S
section
variable {Γ : Gam}
theorem lt_one {a b : Nat} : ([a] : List Nat) < [b] ↔ a < b := by
  constructor
  · intro h
    rcases List.cons_lt_cons_iff.mp h with h | ⟨_, h⟩
    · exact h
    · cases h
  · exact fun h => List.cons_lt_cons_iff.mpr (.inl h)
theorem deref_lst {S : DS} {d : D} (h : isValue d = true) : deref S d = d := by
  cases d <;> first | rfl | (simp [isValue, isSingle, isText] at h; done)
theorem b_is_read (f1 : Γ.fn "_law_told" = some sp_told) (f2 : Γ.fn "_law_take" = some sp_take) (f3 : Γ.fn "_law_same" = some sp_same2) : BodyOk Γ x__law_is_read 1 4 sp_is_read := by
  rintro ds S Q E ⟨t, rfl, hl, h⟩
  refine ⟨rfl, ?_⟩
  replace h := reQ.mk h
  unfold x__law_is_read
  simp [-Bool.exists_bool, st0, f1, f2, f3]
  refine ⟨2, .str t, rfl, hl, .inr (.inr ⟨rfl, t, rfl⟩), ?_⟩
  simp [-Bool.exists_bool]
  refine ⟨by omega, ?_⟩
  refine comp_filt (ι := fun c => D.str [c]) (fun c => !isSign c) (fun c => .str [c]) trivial (fun c _ C hC => ?_) ?_
  · simp [-Bool.exists_bool, lt_one]
    by_cases h1 : 32 ≤ c
    · rw [if_pos h1]
      by_cases h2 : c ≤ 126
      · rw [if_pos h2]
        split
        · rename_i h3
          have e : isSign c = false := by unfold isSign; rw [if_pos (by omega), if_pos (by omega), h3]; rfl
          rw [e] at hC; exact hC
        · rename_i h3
          have e : isSign c = true := by unfold isSign; rw [if_pos (by omega), if_pos (by omega), beq_eq_false_iff_ne.mpr h3]; rfl
          rw [e] at hC; exact hC
      · rw [if_neg h2]
        have e : isSign c = false := by unfold isSign; rw [if_pos (by omega), if_neg (by omega)]
        rw [e] at hC; exact hC
    · rw [if_neg h1]
      have e : isSign c = false := by unfold isSign; rw [if_neg (by omega)]
      rw [e] at hC; exact hC
  · have e0 : dhs ((t.filter fun c => !isSign c).map fun c => D.str [c]) = 0 := dhs_zero fun d hd => by
      obtain ⟨c, _, rfl⟩ := List.mem_map.mp hd
      rfl
    have no : readV t = none → toldD 2 (.str t) = refV := fun e => by simp only [toldD]; rw [if_neg (by decide), if_neg (by decide), e]
    simp [-Bool.exists_bool, e0]
    by_cases ha : t.all isSign = true
    · have e1 : (t.filter fun c => !isSign c) = [] := by
        rw [List.filter_eq_nil_iff]
        intro c hc
        have := List.all_eq_true.mp ha c hc
        simp [this]
      have hs : ∀ c ∈ t, isSign c = true := fun c hc => List.all_eq_true.mp ha c hc
      rw [e1]
      simp only [List.map_nil, eqs_00, if_true]
      refine ⟨t, rfl, hl, fun e => ?_, fun v r' e => ?_⟩
      · rw [no (by unfold readV; rw [if_pos ha, e])]
        simp [refV]
        exact h
      · have hv := value_ok hs e
        cases r' with
        | nil =>
          have e2 : toldD 2 (.str t) = .tup [.str wFound, v] := by
            simp only [toldD]; rw [if_neg (by decide), if_neg (by decide)]
            unfold readV; rw [if_pos ha, e]
          rw [e2]
          simp [-Bool.exists_bool, at_0, at_1]
          exact ⟨v, rfl, hv, h⟩
        | cons c r' =>
          rw [no (by unfold readV; rw [if_pos ha, e])]
          simp [-Bool.exists_bool, at_0, at_1, refV]
          exact h
    · have hne : ∃ x xs, (t.filter fun c => !isSign c) = x :: xs := by
        cases e : (t.filter fun c => !isSign c) with
        | cons x xs => exact ⟨x, xs, rfl⟩
        | nil =>
          refine (ha (List.all_eq_true.mpr fun c hc => ?_)).elim
          have := List.filter_eq_nil_iff.mp e c hc
          simpa using this
      obtain ⟨x, xs, e1⟩ := hne
      rw [e1, no (by unfold readV; rw [if_neg ha])]
      simp [refV]
      exact h
end
end PV

set_option linter.all false
set_option autoImplicit false
set_option maxHeartbeats 1000000
namespace PV
open PySem PySem.Spec PyProof.Rows L2 TL DL K01
/-! what is written is read the same -/
theorem scan_q {r : Tx} : scanT (34 :: r) = some ([], r) := by unfold scanT; simp
theorem scan_e {e z : Nat} {r : Tx} (h : escOf e = some z) : scanT (92 :: e :: r) = (scanT r).map fun p => (z :: p.1, p.2) := by
  conv => lhs; unfold scanT
  simp [h]
theorem scan_c {c : Nat} {r : Tx} (h1 : c ≠ 34) (h2 : c ≠ 92) : scanT (c :: r) = (scanT r).map fun p => (c :: p.1, p.2) := by
  conv => lhs; unfold scanT
  simp [h1, h2]
theorem scan_esc (rest : Tx) : ∀ s : Tx, scanT (s.flatMap esc1 ++ 34 :: rest) = some (s, rest)
  | [] => scan_q
  | c :: s => by
    have ih := scan_esc rest s
    rw [List.flatMap_cons, List.append_assoc]
    generalize s.flatMap esc1 = F at ih
    unfold esc1
    by_cases h1 : c = 10
    · subst h1
      show scanT (92 :: 110 :: (F ++ 34 :: rest)) = _
      rw [scan_e (z := 10) rfl, ih]; rfl
    · rw [if_neg h1]
      by_cases h2 : c = 34 ∨ c = 92
      · rw [if_pos h2]
        show scanT (92 :: c :: (F ++ 34 :: rest)) = _
        rw [scan_e (z := c) (by rcases h2 with rfl | rfl <;> rfl), ih]; rfl
      · rw [if_neg h2]
        have h3 : c ≠ 34 := fun e => h2 (.inl e)
        have h4 : c ≠ 92 := fun e => h2 (.inr e)
        show scanT (c :: (F ++ 34 :: rest)) = _
        rw [scan_c h3 h4, ih]; rfl
/-- a rest that ends a number -/
def EndR (rest : Tx) : Prop := ∀ c, rest.take 1 = [c] → isFig c = false
theorem figs_app {f rest : Tx} (h : NumText.AllDigits f) (hr : EndR rest) : figs (f ++ rest) = f ∧ (f ++ rest).dropWhile isFig = rest := by
  have h0 : rest.takeWhile isFig = [] ∧ rest.dropWhile isFig = rest := by
    cases rest with
    | nil => exact ⟨rfl, rfl⟩
    | cons c rest =>
      have := hr c rfl
      exact ⟨List.takeWhile_cons_of_neg (by simp [this]), List.dropWhile_cons_of_neg (by simp [this])⟩
  have h1 : ∀ a ∈ f, isFig a = true := fun a ha => by unfold isFig; exact decide_eq_true (h a ha)
  unfold figs
  rw [List.takeWhile_append_of_pos h1, h0.1, List.append_nil, List.dropWhile_append_of_pos h1, h0.2]
  exact ⟨rfl, rfl⟩
theorem numL_head : ∀ (n : Nat), (TL.numL n).take 1 = [48] → n = 0 := by
  intro n
  induction n using Nat.strongRecOn with
  | _ n ih =>
    intro h
    rcases Nat.lt_or_ge n 10 with h1 | h1
    · rw [TL.numL_lt h1] at h
      simp at h; exact h
    · rw [TL.numL_step h1] at h
      have hne := TL.numL_ne (n / 10)
      have : (TL.numL (n / 10)).take 1 = [48] := by
        cases e : TL.numL (n / 10) with
        | nil => exact (hne e).elim
        | cons c r => rw [e] at h; simpa using h
      have := ih (n / 10) (by omega) this
      omega
theorem numL_first (n : Nat) : ∃ c r, TL.numL n = c :: r ∧ 48 ≤ c ∧ c ≤ 57 := by
  cases e : TL.numL n with
  | nil => exact (TL.numL_ne n e).elim
  | cons c r => exact ⟨c, r, rfl, TL.numL_digits n c (by rw [e]; simp)⟩
theorem single_num {i : Int} (h : -1000000000 < i ∧ i < 1000000000) {rest : Tx} (hr : EndR rest) : singleOf (numT i ++ rest) = some (.int i, rest) := by
  have main : numOf (numT i ++ rest) = some (i, rest) := by
    by_cases h0 : 0 ≤ i
    · obtain ⟨n, rfl⟩ := Int.eq_ofNat_of_zero_le h0
      rw [numT_nat]
      obtain ⟨c, r, e, c1, c2⟩ := numL_first n
      have hl := TL.numL_len (n := n) (k := 9) (by omega) (by omega)
      obtain ⟨f1, f2⟩ := figs_app (TL.numL_digits n) hr
      have hneg : negOf (TL.numL n ++ rest) = false := by
        unfold negOf; rw [e]; simp; omega
      have ha : aft (TL.numL n ++ rest) = TL.numL n ++ rest := by unfold aft; rw [hneg]; rfl
      unfold numOf
      rw [ha, f1, f2, hneg, TL.numL_val]
      have hb : numBad false (TL.numL n) = false := by
        unfold numBad
        rw [decide_eq_false_iff_not]
        rintro (h | h | ⟨h, h2 | h2⟩)
        · rw [e] at h; simp at h
        · omega
        · have := numL_head n h
          subst this
          rw [TL.numL_lt (by decide)] at h2; simp at h2
        · cases h2
      rw [hb]
      simp
    · obtain ⟨n, hn⟩ : ∃ n : Nat, i = -((n + 1 : Nat) : Int) := ⟨(-i - 1).toNat, by omega⟩
      subst hn
      rw [numT_neg]
      obtain ⟨c, r, e, c1, c2⟩ := numL_first (n + 1)
      have hl := TL.numL_len (n := n + 1) (k := 9) (by omega) (by omega)
      obtain ⟨f1, f2⟩ := figs_app (TL.numL_digits (n + 1)) hr
      have hneg : negOf (45 :: TL.numL (n + 1) ++ rest) = true := rfl
      have ha : aft (45 :: TL.numL (n + 1) ++ rest) = TL.numL (n + 1) ++ rest := by unfold aft; rw [hneg]; rfl
      unfold numOf
      rw [ha, f1, f2, hneg, TL.numL_val]
      have hb : numBad true (TL.numL (n + 1)) = false := by
        unfold numBad
        rw [decide_eq_false_iff_not]
        rintro (h | h | ⟨h, _⟩)
        · rw [e] at h; simp at h
        · omega
        · have := numL_head (n + 1) h
          omega
      rw [hb]
      rfl
  have hd : ∃ c r, numT i ++ rest = c :: r ∧ (c = 45 ∨ (48 ≤ c ∧ c ≤ 57)) := by
    by_cases h0 : 0 ≤ i
    · obtain ⟨n, rfl⟩ := Int.eq_ofNat_of_zero_le h0
      obtain ⟨c, r, e, c1, c2⟩ := numL_first n
      rw [numT_nat, e]
      exact ⟨c, _, rfl, .inr ⟨c1, c2⟩⟩
    · obtain ⟨n, hn⟩ : ∃ n : Nat, i = -((n + 1 : Nat) : Int) := ⟨(-i - 1).toNat, by omega⟩
      subst hn
      rw [numT_neg]
      exact ⟨45, _, rfl, .inl rfl⟩
  obtain ⟨c, r, e, hc⟩ := hd
  unfold singleOf
  rw [main, e, if_neg (by simp; omega), if_neg (by simp; omega), if_neg (by simp; omega)]
  rfl
theorem single_back {d : D} (h : isSingle d = true) {rest : Tx} (hr : EndR rest) : singleOf (singleT d ++ rest) = some (d, rest) := by
  cases d <;> try (simp [isSingle, isText] at h; done)
  · rename_i b
    cases b <;> simp [singleT, singleOf]
  · simp only [isSingle, decide_eq_true_eq] at h
    exact single_num h hr
  · rename_i s
    have hl := isText_len (s := s) h
    have e : singleT (.str s) ++ rest = 34 :: (s.flatMap esc1 ++ 34 :: rest) := by simp [singleT, quotedT]
    rw [e]
    unfold singleOf
    rw [if_pos (by rfl)]
    show textR (s.flatMap esc1 ++ 34 :: rest) = _
    unfold textR
    rw [scan_esc]
    simp; omega
theorem single_first {d : D} (h : isSingle d = true) : ∃ c r, singleT d = c :: r ∧ c ≠ 32 ∧ c ≠ 93 ∧ c ≠ 91 := by
  cases d <;> try (simp [isSingle, isText] at h; done)
  · rename_i b
    cases b
    · exact ⟨110, _, rfl, by decide⟩
    · exact ⟨121, _, rfl, by decide⟩
  · rename_i i
    simp only [singleT]
    by_cases h0 : 0 ≤ i
    · obtain ⟨n, rfl⟩ := Int.eq_ofNat_of_zero_le h0
      obtain ⟨c, r, e, c1, c2⟩ := numL_first n
      rw [numT_nat, e]
      exact ⟨c, _, rfl, by omega, by omega, by omega⟩
    · obtain ⟨n, hn⟩ : ∃ n : Nat, i = -((n + 1 : Nat) : Int) := ⟨(-i - 1).toNat, by omega⟩
      subst hn
      rw [numT_neg]
      exact ⟨45, _, rfl, by decide⟩
  · exact ⟨34, _, rfl, by decide⟩
theorem strip_id {c : Nat} {r : Tx} (h : c ≠ 32) : lstripT (c :: r) = c :: r := by unfold lstripT; rw [List.dropWhile_cons_of_neg (by simpa using h)]
theorem strip_sp {r : Tx} : lstripT (32 :: r) = lstripT r := by unfold lstripT; rw [List.dropWhile_cons_of_pos (by simp)]
theorem join_first {d : D} {ds : List D} (h : isSingle d = true) (x : Tx) : ∃ c r, joinL [44, 32] ((d :: ds).map singleT) ++ x = c :: r ∧ c ≠ 32 ∧ c ≠ 93 ∧ c ≠ 91 := by
  obtain ⟨c, r, e, h1⟩ := single_first h
  cases ds with
  | nil => exact ⟨c, r ++ x, by simp [joinL, e], h1⟩
  | cons d2 ds => exact ⟨c, _, by simp only [List.map_cons, joinL, e]; rfl, h1⟩
theorem items_back : ∀ (ds : List D) (d : D) (n : Nat) (its : List D), n + its.length = 21 → its.length + (d :: ds).length ≤ 20 → (∀ x ∈ d :: ds, isSingle x = true) → itemsR n its (joinL [44, 32] ((d :: ds).map singleT) ++ [93]) = some (.lst (its ++ d :: ds), [])
  | [], d, n, its, hn, hl, hs => by
    obtain ⟨n, rfl⟩ : ∃ m, n = m + 1 := ⟨n - 1, by simp at hl; omega⟩
    have e := single_back (hs d (by simp)) (rest := [93]) (fun c hc => by cases hc; rfl)
    show itemsR (n + 1) its (singleT d ++ [93]) = _
    unfold itemsR
    rw [e]
    simp only [List.length_cons, List.length_nil] at hl
    simp only []
    rw [if_neg (by omega), strip_id (by decide)]
    rfl
  | d2 :: ds, d, n, its, hn, hl, hs => by
    simp only [List.length_cons] at hl
    obtain ⟨n, rfl⟩ : ∃ m, n = m + 1 := ⟨n - 1, by omega⟩
    have ih := items_back ds d2 n (its ++ [d]) (by simp; omega) (by simp; omega) fun x hx => hs x (List.mem_cons_of_mem _ hx)
    obtain ⟨c, r, e2, h1, _⟩ := join_first (ds := ds) (hs d2 (by simp)) [93]
    have e := single_back (hs d (by simp)) (rest := 44 :: 32 :: (joinL [44, 32] ((d2 :: ds).map singleT) ++ [93])) (fun c hc => by cases hc; rfl)
    have ej : joinL [44, 32] ((d :: d2 :: ds).map singleT) ++ [93] = singleT d ++ 44 :: 32 :: (joinL [44, 32] ((d2 :: ds).map singleT) ++ [93]) := by simp [joinL]
    rw [ej]
    unfold itemsR
    rw [e]
    simp only []
    rw [if_neg (by omega), strip_id (by decide), if_neg (by simp), if_pos (by rfl)]
    show itemsR n (its ++ [d]) (lstripT (32 :: (joinL [44, 32] ((d2 :: ds).map singleT) ++ [93]))) = _
    rw [strip_sp, e2, strip_id h1, ← e2, ih]
    simp
theorem value_back {d : D} (h : isValue d = true) : valueOf (textOf d) = some (d, []) := by
  by_cases hl : ∃ es, d = .lst es
  · obtain ⟨es, rfl⟩ := hl
    simp only [isValue, Bool.and_eq_true, decide_eq_true_eq, List.all_eq_true] at h
    have e : textOf (.lst es) = 91 :: (joinL [44, 32] (es.map singleT) ++ [93]) := by simp [textOf]
    rw [e]
    unfold valueOf
    rw [if_pos (by rfl)]
    show (if (lstripT (joinL [44, 32] (es.map singleT) ++ [93])).take 1 = [93] then _ else _) = _
    cases es with
    | nil => rfl
    | cons d ds =>
      obtain ⟨c, r, e2, h1, h2, _⟩ := join_first (ds := ds) (h.2 d (by simp)) [93]
      have ih := items_back ds d 21 [] rfl (by simp at h ⊢; omega) h.2
      rw [e2] at ih
      show (if (lstripT (joinL [44, 32] ((d :: ds).map singleT) ++ [93])).take 1 = [93] then _ else itemsR 21 [] (lstripT (joinL [44, 32] ((d :: ds).map singleT) ++ [93]))) = _
      rw [e2, strip_id h1, if_neg (by simpa using h2), ih]
      rfl
  · have h2 : isSingle d = true ∧ textOf d = singleT d := by
      cases d <;> first | exact ⟨h, rfl⟩ | exact (hl ⟨_, rfl⟩).elim
    rw [h2.2]
    obtain ⟨c, r, e2, _, _, h1⟩ := single_first h2.1
    have := single_back h2.1 (rest := []) (fun c hc => by cases hc)
    rw [List.append_nil] at this
    unfold valueOf
    rw [if_neg (by rw [e2]; simpa using h1), this]
theorem single_signs {d : D} (h : isSingle d = true) : ∀ c ∈ singleT d, isSign c = true := by
  have dig : ∀ n, ∀ c ∈ TL.numL n, isSign c = true := fun n c hc => by
    have := TL.numL_digits n c hc
    unfold isSign
    rw [if_pos (by omega), if_pos (by omega), beq_eq_false_iff_ne.mpr (by omega)]; rfl
  cases d <;> try (simp [isSingle, isText] at h; done)
  · rename_i b
    cases b <;> decide
  · rename_i i
    simp only [singleT]
    by_cases h0 : 0 ≤ i
    · obtain ⟨n, rfl⟩ := Int.eq_ofNat_of_zero_le h0
      rw [numT_nat]; exact dig n
    · obtain ⟨n, hn⟩ : ∃ n : Nat, i = -((n + 1 : Nat) : Int) := ⟨(-i - 1).toNat, by omega⟩
      subst hn
      rw [numT_neg]
      intro c hc
      rcases List.mem_cons.mp hc with rfl | hc
      · decide
      · exact dig _ c hc
  · rename_i s
    simp only [isSingle, isText, Bool.and_eq_true, List.all_eq_true] at h
    intro c hc
    simp only [singleT, quotedT, List.mem_append, List.mem_singleton, List.mem_flatMap] at hc
    rcases hc with (rfl | ⟨x, hx, hc⟩) | rfl
    · decide
    · have h2 := h.2 x hx
      unfold esc1 at hc
      split at hc
      · simp at hc; rcases hc with rfl | rfl <;> decide
      · rename_i h10
        split at hc
        · rename_i h3
          simp at hc
          rcases hc with rfl | rfl
          · decide
          · rcases h3 with rfl | rfl <;> decide
        · simp at hc
          subst hc
          simpa [h10] using h2
    · decide
theorem join_mem {sep : Tx} {c : Nat} : ∀ {xs : List Tx}, c ∈ joinL sep xs → c ∈ sep ∨ ∃ x ∈ xs, c ∈ x
  | [], h => by cases h
  | [x], h => .inr ⟨x, by simp, h⟩
  | x :: y :: r, h => by
    simp only [joinL, List.mem_append] at h
    rcases h with h | h | h
    · exact .inr ⟨x, by simp, h⟩
    · exact .inl h
    · rcases join_mem h with h | ⟨z, hz, h⟩
      · exact .inl h
      · exact .inr ⟨z, List.mem_cons_of_mem _ hz, h⟩
theorem text_signs {d : D} (h : isValue d = true) : ∀ c ∈ textOf d, isSign c = true := by
  by_cases hl : ∃ es, d = .lst es
  · obtain ⟨es, rfl⟩ := hl
    simp only [isValue, Bool.and_eq_true, decide_eq_true_eq, List.all_eq_true] at h
    intro c hc
    simp only [textOf, List.mem_append, List.mem_singleton] at hc
    rcases hc with (rfl | hc) | rfl
    · decide
    · rcases join_mem hc with hc | ⟨x, hx, hc⟩
      · simp at hc; rcases hc with rfl | rfl <;> decide
      · obtain ⟨d, hd, rfl⟩ := List.mem_map.mp hx
        exact single_signs (h.2 d hd) c hc
    · decide
  · have h2 : isSingle d = true ∧ textOf d = singleT d := by
      cases d <;> first | exact ⟨h, rfl⟩ | exact (hl ⟨_, rfl⟩).elim
    rw [h2.2]; exact single_signs h2.1
theorem read_back {d : D} (h : isValue d = true) : readV (textOf d) = some d := by
  unfold readV
  rw [if_pos (List.all_eq_true.mpr (text_signs h)), value_back h]
theorem textOf_len {d : D} (h : isValue d = true) : (textOf d).length ≤ 9000 := by
  by_cases hl : ∃ es, d = .lst es
  · obtain ⟨es, rfl⟩ := hl
    simp only [isValue, Bool.and_eq_true, decide_eq_true_eq, List.all_eq_true] at h
    have := join_single h.2
    simp only [textOf, List.length_append, List.length_cons, List.length_nil]
    omega
  · have h2 : isSingle d = true ∧ textOf d = singleT d := by
      cases d <;> first | exact ⟨h, rfl⟩ | exact (hl ⟨_, rfl⟩).elim
    rw [h2.2]; have := singleT_len h2.1; omega
theorem pure_single {d : D} (h : isSingle d = true) : PureD d := by
  cases d <;> try (simp [isSingle, isText] at h; done)
  · trivial
  · trivial
  · rename_i s
    have := isText_len (s := s) h
    show List.length s ≤ 1000000
    omega
theorem pure_value {d : D} (h : isValue d = true) : PureD d := by
  by_cases hl : ∃ es, d = .lst es
  · obtain ⟨es, rfl⟩ := hl
    simp only [isValue, Bool.and_eq_true, decide_eq_true_eq, List.all_eq_true] at h
    exact ⟨by omega, PureL.of fun d hd => pure_single (h.2 d hd)⟩
  · have h2 : isSingle d = true := by
      cases d <;> first | exact h | exact (hl ⟨_, rfl⟩).elim
    exact pure_single h2
end PV

set_option linter.all false
set_option autoImplicit false
set_option maxHeartbeats 2000000
namespace PV
open PySem PySem.Spec PyProof.Rows L2 TL DL K01
def sp_law : DSp := fun ds S Q _ => ∃ ns, ds = [.scr ns] ∧ ∀ S', Q (.bl true) S'
theorem use_read {t : Tx} {S : DS} {Q : QD} {E : QE} (hl : t.length ≤ 1000000) (h : Q (.bl true) S) : sp_is_read [.str t] S Q E := ⟨t, rfl, hl, h⟩
theorem use_told {w : Int} {d : D} {S : DS} {Q : QD} {E : QE} (hw : w = 0 ∨ w = 1) (hp : PureD d) (h : Q (toldD w d) S) : sp_told [.int w, d] S Q E := ⟨w, d, rfl, hp, by rcases hw with h | h <;> simp [h], h⟩
theorem use_told2 {t : Tx} {S : DS} {Q : QD} {E : QE} (hl : t.length ≤ 1000000) (h : Q (toldD 2 (.str t)) S) : sp_told [.int 2, .str t] S Q E := ⟨2, .str t, rfl, hl, .inr (.inr ⟨rfl, t, rfl⟩), h⟩
theorem use_written {d : D} {S : DS} {Q : QD} {E : QE} (h1 : isValue d = true) (h : Q (.str (textOf d)) S) : sp_written2 [d] S Q E := ⟨d, rfl, h1, h⟩
theorem repS_len (s : Tx) (n : Int) : (repS s n).length = n.toNat * s.length := by unfold repS; simp
theorem repS_mem {s : Tx} {n : Int} {c : Nat} (h : c ∈ repS s n) : c ∈ s := by
  unfold repS at h
  rw [List.mem_flatten] at h
  obtain ⟨l, hl, hc⟩ := h
  rw [(List.mem_replicate.mp hl).2] at hc
  exact hc
structure LawG (Γ : Gam) : Prop where
  draw : Γ.fn "_law_draw" = some sp_draw
  pick : Γ.fn "_law_pick" = some sp_pick
  sign : Γ.fn "_law_sign" = some sp_sign
  single : Γ.fn "_law_single" = some sp_single
  value : Γ.fn "_law_value" = some sp_value
  written : Γ.fn "_law_written" = some sp_written2
  same : Γ.fn "_law_same" = some sp_same2
  told : Γ.fn "_law_told" = some sp_told
  isread : Γ.fn "_law_is_read" = some sp_is_read
section
variable {Γ : Gam}
def BadV (d : D) : Prop := PureD d ∧ isValue d = false ∧ isSingle d = false ∧ dh d ≤ 3
theorem told0_bad {d : D} (h : isValue d = false) : toldD 0 d = refV := by simp [toldD, h]
theorem told1_bad {d : D} (h : isValue d = false) : toldD 1 d = refV := by simp [toldD, h]
/-- the law's last part -/
theorem law_e (G : LawG Γ) {ns : List Int} {t : Addr} {S : DS} {Q : QD} {E : QE} {x2 x3 x4 x5 x6 x7 x8 x9 x10 x11 x12 x13 x14 x15 : Option D} {zs : List D} (ht : S t = some (.lst zs)) (hz : zs.length < 600000) (h : ∀ S', Q (.bl true) S') :
    rdSs Γ (x_law.drop 13) (bodyEnds Q E) [some (.scr ns), some (.ref t), x2, x3, x4, x5, x6, x7, x8, x9, x10, x11, x12, x13, x14, x15] S := by
  simp only [x_law, List.drop_succ_cons, List.drop_zero]
  simp [-Bool.exists_bool, G.draw, G.pick, G.sign, G.told]
  refine use_draw ht (by omega) (by decide) fun v zs1 h0 h1 h2 => ?_
  simp [-Bool.exists_bool]
  refine ⟨by omega, use_sign DS.upd_same (by omega) fun c zs2 hc h3 => ?_⟩
  have l1 := repS_len [97] v
  have l2 := repS_len [98] (200 - v)
  simp at l1 l2
  simp [-Bool.exists_bool]
  refine ⟨by omega, by omega, by omega, ?_⟩
  have hlen : (repS [97] v ++ c :: repS [98] (200 - v)).length = 201 := by simp; omega
  have hsig : ∀ x ∈ (repS [97] v ++ c :: repS [98] (200 - v)), isSign x = true := by
    intro x hx
    simp only [List.mem_append, List.mem_cons] at hx
    rcases hx with hx | rfl | hx
    · have := repS_mem hx; simp at this; subst this; decide
    · exact hc
    · have := repS_mem hx; simp at this; subst this; decide
  generalize hlg : repS [97] v ++ c :: repS [98] (200 - v) = lg at hlen hsig
  refine use_pick DS.upd_same (by omega) (by simp) fun bad zs3 hb h4 => ?_
  have hbad : BadV bad := by
    have hlt : isText (.str lg) = false := by
      simp only [isText, hlen]; rfl
    simp only [List.mem_cons, List.not_mem_nil, or_false] at hb
    rcases hb with rfl | rfl | rfl | rfl | rfl | rfl | rfl | rfl | rfl | rfl
    · exact ⟨trivial, by decide, by decide, by decide⟩
    · exact ⟨trivial, by decide, by decide, by decide⟩
    · exact ⟨trivial, by decide, by decide, by decide⟩
    · exact ⟨⟨by decide, trivial, trivial, trivial⟩, by decide, by decide, by decide⟩
    · exact ⟨by show List.length lg ≤ 1000000; omega, hlt, hlt, Nat.zero_le _⟩
    · exact ⟨by show 3 ≤ 1000000; decide, by decide, by decide, by decide⟩
    · exact ⟨by show 1 ≤ 1000000; decide, by decide, by decide, by decide⟩
    · exact ⟨⟨by decide, PureL.of (by simp; trivial)⟩, by decide, by decide, by decide⟩
    · exact ⟨⟨by decide, ⟨by decide, trivial, trivial⟩, trivial⟩, by decide, by decide, by decide⟩
    · exact ⟨⟨by decide, trivial, trivial⟩, by decide, by decide, by decide⟩
  clear hb
  obtain ⟨hp, hv1, hv2, hdh⟩ := hbad
  have hder : ∀ S', deref S' bad = bad := fun S' => by
    cases bad <;> first | rfl | exact hp.elim
  intro a ha
  rw [DS.upd_upd] at ha ⊢
  have hta : t ≠ a := fun e => by rw [← e, DS.upd_same] at ha; cases ha
  refine use_draw (zs := zs3) (by rw [DS.upd_ne hta, DS.upd_same]) (by omega) (by decide) fun v2 zs4 k0 k1 k2 => ?_
  rw [upd2 hta]
  simp [-Bool.exists_bool, hder]
  have hm : ∀ d ∈ (List.take v2.toNat [D.int 1, D.str [97], D.bl true] ++ bad :: List.drop v2.toNat [D.int 1, D.str [97], D.bl true]), PureD d := by
    intro d hd
    simp only [List.mem_append, List.mem_cons] at hd
    have p3 : ∀ d ∈ [D.int 1, D.str [97], D.bl true], PureD d := by
      intro d hd
      simp at hd
      rcases hd with rfl | rfl | rfl
      · trivial
      · show 1 ≤ 1000000; decide
      · trivial
    rcases hd with hd | rfl | hd
    · exact p3 d (List.mem_of_mem_take hd)
    · exact hp
    · exact p3 d (List.mem_of_mem_drop hd)
  have hbm : bad ∈ (List.take v2.toNat [D.int 1, D.str [97], D.bl true] ++ bad :: List.drop v2.toNat [D.int 1, D.str [97], D.bl true]) := by simp
  have hll : (List.take v2.toNat [D.int 1, D.str [97], D.bl true] ++ bad :: List.drop v2.toNat [D.int 1, D.str [97], D.bl true]).length ≤ 100 := by
    simp; omega
  generalize (List.take v2.toNat [D.int 1, D.str [97], D.bl true] ++ bad :: List.drop v2.toNat [D.int 1, D.str [97], D.bl true]) = its at hm hbm hll
  have hiv : isValue (.lst its) = false := by
    simp only [isValue]
    rw [Bool.and_eq_false_iff]
    right
    rw [List.all_eq_false]
    exact ⟨bad, hbm, by simp [hv2]⟩
  have hip : PureD (.lst its) := ⟨by omega, PureL.of hm⟩
  refine ⟨k0, by omega, by omega, ?_⟩
  have hlv : isValue (.str (lg.drop 1)) = true := by
    refine single_val (text_ok (fun c hc => .inr (hsig c (List.mem_of_mem_drop hc))) ?_)
    rw [List.length_drop]; omega
  have h20 : isValue (D.lst [D.int 1, D.int 1, D.int 1, D.int 1, D.int 1, D.int 1, D.int 1, D.int 1, D.int 1, D.int 1, D.int 1, D.int 1, D.int 1, D.int 1, D.int 1, D.int 1, D.int 1, D.int 1, D.int 1, D.int 1]) = true := by decide
  generalize hS : ((S.upd t (Cell.lst zs4)).upd a (Cell.lst its)).del a = S9
  generalize (D.lst [D.int 1, D.int 1, D.int 1, D.int 1, D.int 1, D.int 1, D.int 1, D.int 1, D.int 1, D.int 1, D.int 1, D.int 1, D.int 1, D.int 1, D.int 1, D.int 1, D.int 1, D.int 1, D.int 1, D.int 1]) = l20 at h20
  have t1 : ∀ d, isValue d = true → toldD 1 d = .tup [.str wFound, .str (textOf d)] := fun d hd => by simp [toldD, hd]
  have last : ∀ {S2 : DS}, sp_told [D.int 1, D.str (lg.drop 1)] S2 (fun a S1 => dIdx a (D.int 0) S1 fun a S1 => dh (deref S1 a) ≤ 64 ∧ if eqB (deref S1 a) (D.str [102, 111, 117, 110, 100]) = true then
      sp_told [D.int 1, l20] S1 (fun a S1 => dIdx a (D.int 0) S1 fun a S1 => dh (deref S1 a) ≤ 64 ∧ reQ Q (D.bl (eqB (deref S1 a) (D.str [102, 111, 117, 110, 100]))) S1) fun x S1 => reE E x S1
      else reQ Q (D.bl false) S1) fun x S1 => reE E x S1 := by
    intro S2
    refine use_told (.inr rfl) (pure_value hlv) ?_
    rw [t1 _ hlv]
    simp [-Bool.exists_bool, at_0]
    refine use_told (.inr rfl) (pure_value h20) ?_
    rw [t1 _ h20]
    simp [-Bool.exists_bool, at_0]
    exact reQ.mk (h S2)
  split
  · refine comp_map0 (fun _ => refV) trivial (fun d hd C hC => ?_) ?_
    · simp at hd
      rcases hd with rfl | rfl
      · simp [-Bool.exists_bool]
        exact use_told (.inl rfl) hp (by rw [told0_bad hv1]; exact hC)
      · simp [-Bool.exists_bool]
        exact use_told (.inr rfl) hp (by rw [told1_bad hv1]; exact hC)
    · simp [-Bool.exists_bool, -List.drop_one, refV, cut_f1]
      exact last
  · refine comp_map0 (fun _ => refV) trivial (fun d hd C hC => ?_) ?_
    · simp at hd
      rcases hd with rfl | rfl
      · simp [-Bool.exists_bool]
        exact use_told (.inl rfl) hip (by rw [told0_bad hiv]; exact hC)
      · simp [-Bool.exists_bool]
        exact use_told (.inr rfl) hip (by rw [told1_bad hiv]; exact hC)
    · simp [-Bool.exists_bool, -List.drop_one, refV, cut_f1]
      refine comp_map0 (fun _ => refV) trivial (fun d hd C hC => ?_) ?_
      · simp at hd
        rcases hd with rfl | rfl
        · simp [-Bool.exists_bool]
          exact use_told (.inl rfl) hp (by rw [told0_bad hv1]; exact hC)
        · simp [-Bool.exists_bool]
          exact use_told (.inr rfl) hp (by rw [told1_bad hv1]; exact hC)
      · simp [-Bool.exists_bool, -List.drop_one, refV, cut_f1]
        exact last
end
end PV

set_option linter.all false
set_option autoImplicit false
set_option maxHeartbeats 2000000
namespace PV
open PySem PySem.Spec PyProof.Rows L2 TL DL K01
section
variable {Γ : Gam}
theorem joinL_len {sep : Tx} {k n : Nat} (hs : sep.length ≤ k) : ∀ {ts : List Tx}, (∀ t ∈ ts, t.length ≤ n) → (joinL sep ts).length ≤ (n + k) * ts.length
  | [], _ => Nat.zero_le _
  | [x], h => by
    have := h x (by simp)
    simp only [joinL, List.length_cons, List.length_nil]
    show List.length x ≤ _
    omega
  | x :: y :: r, h => by
    have h1 := h x (by simp)
    have h2 := joinL_len hs (ts := y :: r) fun t ht => h t (List.mem_cons_of_mem _ ht)
    simp only [joinL, List.length_append]
    rw [show (x :: y :: r).length = (y :: r).length + 1 from rfl, Nat.mul_add, Nat.mul_one]
    have e1 : List.length x ≤ n := h1
    have e2 : List.length sep ≤ k := hs
    omega
theorem sum_le {n : Nat} : ∀ {ts : List Tx}, (∀ t ∈ ts, t.length ≤ n) → (ts.map fun x : List Nat => x.length).sum ≤ n * ts.length
  | [], _ => Nat.zero_le _
  | x :: r, h => by
    have h1 := h x (by simp)
    have h2 := sum_le (ts := r) fun t ht => h t (List.mem_cons_of_mem _ ht)
    rw [List.map_cons, List.sum_cons, List.length_cons, Nat.mul_add, Nat.mul_one]
    have e1 : List.length x ≤ n := h1
    omega
theorem for_mem {stay : DS → Prop} {f : D → (St0 → DS → Prop) → St0 → DS → Prop} {nx : St0 → DS → Prop} {items : List D} {σ : St0} {S : DS} (R : St0 → DS → Prop) (h0 : R σ S) (hstay : ∀ σ S, R σ S → stay S)
    (hf : ∀ d ∈ items, ∀ σ S, R σ S → ∀ C : St0 → DS → Prop, (∀ σ' S', R σ' S' → C σ' S') → f d C σ S) (hn : ∀ σ S, R σ S → nx σ S) : forD stay f nx items σ S :=
  for_ind (fun _ => R) h0 (fun _ => hstay) (fun i σ S hi hR C hC => hf _ (List.getElem_mem hi) σ S hR C hC) hn
theorem law_d (G : LawG Γ) {ns : List Int} {t : Addr} {S : DS} {Q : QD} {E : QE} {x2 x3 x4 x5 x6 x7 x8 x9 x10 x11 x12 x13 x14 x15 : Option D} {zs : List D} (ht : S t = some (.lst zs)) (hz : zs.length < 500000) (h : ∀ S', Q (.bl true) S') :
    rdSs Γ (x_law.drop 10) (bodyEnds Q E) [some (.scr ns), some (.ref t), x2, x3, x4, x5, x6, x7, x8, x9, x10, x11, x12, x13, x14, x15] S := by
  have R := fun (S' : DS) (zs' : List D) (y8 y9 : Option D) a b => law_e (E := E) (Q := Q) (S := S') (zs := zs') (x2 := x2) (x3 := x3) (x4 := x4) (x5 := x5) (x6 := x6) (x7 := x7) (x8 := y8) (x9 := y9) (x10 := x10) (x11 := x11) (x12 := x12) (x13 := x13) (x14 := x14) (x15 := x15) (ns := ns) (t := t) G a b h
  rw [show x_law.drop 10 = (x_law.drop 10).take 3 ++ x_law.drop 13 from rfl]
  generalize x_law.drop 13 = rest at R
  simp only [x_law, List.drop_succ_cons, List.drop_zero, List.take_succ_cons, List.take_zero]
  simp [-Bool.exists_bool, G.draw, G.pick, G.single, G.written, G.isread]
  refine use_pick ht (by omega) (by simp) fun x zs1 hx h1 => ?_
  obtain ⟨m, rfl, hm0, hm1⟩ : ∃ m : Int, x = .int m ∧ 0 < m ∧ m ≤ 21 := by
    simp at hx
    rcases hx with rfl | rfl | rfl | rfl <;> exact ⟨_, rfl, by decide, by decide⟩
  simp [-Bool.exists_bool]
  refine ⟨by omega, by omega, ?_⟩
  refine comp_ind (fun i outs S' => ∃ zs' ts, S' = S.upd t (.lst zs') ∧ zs'.length ≤ zs1.length + 100 * i ∧ outs = ts.map D.str ∧ ts.length = i ∧ ∀ x ∈ ts, List.length x ≤ 402) (fun _ _ _ _ => trivial) ?_ ⟨zs1, [], rfl, by simp, rfl, rfl, by simp⟩ ?_
  · rintro i outs S' hi ⟨zs', ts, rfl, hz', rfl, hc, hcs⟩ C hC
    simp at hi
    simp [-Bool.exists_bool]
    refine use_gsingle DS.upd_same (by omega) fun d zs5 hd k5 => ?_
    refine use_written (single_val hd) ?_
    rw [DS.upd_upd]
    have e : textOf d = singleT d := by
      cases d <;> first | rfl | (simp [isSingle, isText] at hd; done)
    refine hC _ _ ⟨zs5, ts ++ [textOf d], rfl, by omega, by simp, by simp [hc], fun x hx => ?_⟩
    rcases List.mem_append.mp hx with h | h
    · exact hcs x h
    · simp at h; subst h; rw [e]; exact singleT_len hd
  · rintro outs S' ⟨zs', ts, rfl, hz', rfl, hc, hcs⟩ a ha
    simp at hc hz'
    have hta : t ≠ a := fun e => by rw [← e, DS.upd_same] at ha; cases ha
    have hn : m.toNat ≤ 21 := by omega
    refine use_draw (zs := zs') (by rw [DS.upd_ne hta, DS.upd_same]) (by omega) (by decide) fun v3 zs6 j0 j1 j2 => ?_
    rw [upd2 hta]
    have lg := repS_len [32] v3
    simp at lg
    simp [-Bool.exists_bool, -List.map_map]
    have lg2 : List.length (repS [32] v3) ≤ 2 := by omega
    generalize repS [32] v3 = gp at lg2
    have hj := joinL_len (sep := gp ++ 44 :: (gp ++ [32])) (k := 6) (n := 402) (by simp; omega) (ts := ts) hcs
    have hsm := sum_le (n := 402) (ts := ts) hcs
    have hp : ts.length * (List.length gp + (List.length gp + 1 + 1)) ≤ 21 * 6 := Nat.mul_le_mul (by omega) (by omega)
    have hj2 : (402 + 6) * ts.length ≤ 8568 := by rw [hc]; omega
    have hs2 : 402 * ts.length ≤ 8442 := by rw [hc]; omega
    have hj3 : (joinL (gp ++ 44 :: (gp ++ [32])) ts).length ≤ 8568 := Nat.le_trans hj hj2
    refine ⟨by omega, by omega, by omega, by omega, by omega, ts, rfl, Nat.le_trans (Nat.add_le_add (Nat.le_trans hsm hs2) hp) (by decide), by omega, by omega, by omega, ?_⟩
    refine use_read (by simp; omega) ?_
    simp [-Bool.exists_bool]
    exact R _ zs6 _ _ (by rw [DS.upd_ne hta, DS.upd_same]) (by omega)
/-- fixed odd texts -/
theorem law_c (G : LawG Γ) {ns : List Int} {t : Addr} {S : DS} {Q : QD} {E : QE} {x2 x3 x4 x5 x6 x7 x8 x9 x10 x11 x12 x13 x14 x15 : Option D} {zs : List D} (ht : S t = some (.lst zs)) (hz : zs.length < 500000) (h : ∀ S', Q (.bl true) S') :
    rdSs Γ (x_law.drop 9) (bodyEnds Q E) [some (.scr ns), some (.ref t), x2, x3, x4, x5, x6, x7, x8, x9, x10, x11, x12, x13, x14, x15] S := by
  have R := fun (y7 : Option D) => law_d (E := E) (Q := Q) (S := S) (zs := zs) (x2 := x2) (x3 := x3) (x4 := x4) (x5 := x5) (x6 := x6) (x7 := y7) (x8 := x8) (x9 := x9) (x10 := x10) (x11 := x11) (x12 := x12) (x13 := x13) (x14 := x14) (x15 := x15) (ns := ns) (t := t) G ht hz h
  rw [show x_law.drop 9 = (x_law.drop 9).take 1 ++ x_law.drop 10 from rfl]
  generalize x_law.drop 10 = rest at R
  simp only [x_law, List.drop_succ_cons, List.drop_zero, List.take_succ_cons, List.take_zero]
  simp [-Bool.exists_bool, q_sFor, G.isread]
  refine for_mem (fun σ S' => S' = S ∧ ∃ y7, σ = [some (.scr ns), some (.ref t), x2, x3, x4, x5, x6, y7, x8, x9, x10, x11, x12, x13, x14, x15]) ⟨rfl, x7, rfl⟩ (fun _ _ _ => trivial) ?_ ?_
  · rintro d hd σ S' ⟨rfl, y7, rfl⟩ C hC
    obtain ⟨s, rfl, hl⟩ : ∃ s, d = .str s ∧ s.length ≤ 100 := by
      simp at hd
      rcases hd with rfl | rfl | rfl | rfl | rfl | rfl | rfl | rfl | rfl | rfl | rfl | rfl | rfl | rfl <;> exact ⟨_, rfl, by decide⟩
    simp [-Bool.exists_bool]
    refine use_read (by omega) ?_
    simp [-Bool.exists_bool]
    exact hC _ _ ⟨rfl, _, rfl⟩
  · rintro σ S' ⟨rfl, y7, rfl⟩
    exact R y7
/-- bent texts -/
theorem law_b (G : LawG Γ) {ns : List Int} {t : Addr} {S : DS} {Q : QD} {E : QE} {x2 x4 x5 x6 x7 x8 x9 x10 x11 x12 x13 x14 x15 : Option D} {tx : Tx} {zs : List D} (ht : S t = some (.lst zs)) (hz : zs.length < 400000) (hl : tx.length ≤ 10000) (h : ∀ S', Q (.bl true) S') :
    rdSs Γ (x_law.drop 8) (bodyEnds Q E) [some (.scr ns), some (.ref t), x2, some (.str tx), x4, x5, x6, x7, x8, x9, x10, x11, x12, x13, x14, x15] S := by
  have R := fun (S' : DS) (zs' : List D) (y3 y6 y10 y14 : Option D) a b => law_c (E := E) (Q := Q) (S := S') (zs := zs') (x2 := x2) (x3 := y3) (x4 := x4) (x5 := x5) (x6 := y6) (x7 := x7) (x8 := x8) (x9 := x9) (x10 := y10) (x11 := x11) (x12 := x12) (x13 := x13) (x14 := y14) (x15 := x15) (ns := ns) (t := t) G a b h
  rw [show x_law.drop 8 = (x_law.drop 8).take 1 ++ x_law.drop 9 from rfl]
  generalize x_law.drop 9 = rest at R
  simp only [x_law, List.drop_succ_cons, List.drop_zero, List.take_succ_cons, List.take_zero]
  simp [-Bool.exists_bool, q_sFor, G.draw, G.pick, G.sign, G.isread]
  refine for_ind (fun i σ S' => ∃ (zs' : List D) (tx' : Tx) (y6 y10 y14 : Option D), S' = S.upd t (.lst zs') ∧ zs'.length ≤ zs.length + 10 * i ∧ tx'.length ≤ 10000 + i ∧ σ = [some (.scr ns), some (.ref t), x2, some (.str tx'), x4, x5, y6, x7, x8, x9, y10, x11, x12, x13, y14, x15])
    ⟨zs, tx, x6, x10, x14, (DS.upd_eq ht).symm, by omega, by omega, rfl⟩ (fun _ _ _ _ => trivial) ?_ ?_
  · rintro i σ S' hi ⟨zs', tx', y6, y10, y14, rfl, hz', hl', rfl⟩ C hC
    have hi3 : i < 3 := by simpa using hi
    simp [-Bool.exists_bool]
    refine use_draw DS.upd_same (by omega) (by omega) fun v zs1 h0 h1 h2 => ?_
    rw [DS.upd_upd]
    refine use_sign DS.upd_same (by omega) fun c zs2 hc h3 => ?_
    simp [-Bool.exists_bool]
    refine use_pick DS.upd_same (by omega) (by simp) fun x zs3 hx h4 => ?_
    obtain ⟨sg, rfl, hsg⟩ : ∃ sg, x = .str sg ∧ List.length sg ≤ 1 := by
      simp at hx
      rcases hx with rfl | rfl | rfl | rfl | rfl | rfl | rfl <;> exact ⟨_, rfl, by simp⟩
    rw [DS.upd_upd]
    obtain ⟨n, rfl⟩ := Int.eq_ofNat_of_zero_le h0
    simp [-Bool.exists_bool, cut_to]
    refine ⟨by omega, ?_⟩
    refine use_draw DS.upd_same (by omega) (by decide) fun v2 zs4 k0 k1 k2 => ?_
    obtain ⟨n2, rfl⟩ := Int.eq_ofNat_of_zero_le k0
    have cf := cut_from tx' (n + n2)
    rw [Int.natCast_add] at cf
    simp [-Bool.exists_bool, cf]
    have hln : (List.take n tx' ++ (sg ++ List.drop (n + n2) tx')).length ≤ 10000 + (i + 1) := by simp; omega
    refine ⟨by omega, use_read (by omega) ?_⟩
    simp [-Bool.exists_bool]
    exact hC _ _ ⟨zs4, _, _, _, _, rfl, by omega, hln, rfl⟩
  · rintro σ S' ⟨zs', tx', y6, y10, y14, rfl, hz', hl', rfl⟩
    simp at hz'
    exact R _ zs' _ _ _ _ DS.upd_same (by omega)
theorem law_a (G : LawG Γ) {ns : List Int} {t : Addr} {S : DS} {Q : QD} {E : QE} {d : D} {zs : List D} (ht : S t = some (.lst zs)) (hz : zs.length < 400000) (hd : isValue d = true) (h : ∀ S', Q (.bl true) S') :
    rdSs Γ (x_law.drop 5) (bodyEnds Q E) [some (.scr ns), some (.ref t), some d, some (.str (textOf d)), some (.str (kindT d)), none, none, none, none, none, none, none, none, none, none, none] S := by
  have hl := textOf_len hd
  have R := fun (y5 : Option D) => law_b (E := E) (Q := Q) (S := S) (zs := zs) (tx := textOf d) (x2 := some d) (x4 := some (.str (kindT d))) (x5 := y5) (x6 := none) (x7 := none) (x8 := none) (x9 := none) (x10 := none) (x11 := none) (x12 := none) (x13 := none) (x14 := none) (x15 := none) (ns := ns) (t := t) G ht hz (by omega) h
  rw [show x_law.drop 5 = (x_law.drop 5).take 3 ++ x_law.drop 8 from rfl]
  generalize x_law.drop 8 = rest at R
  simp only [x_law, List.drop_succ_cons, List.drop_zero, List.take_succ_cons, List.take_zero]
  have hp := pure_value hd
  have k0 : toldD 0 d = .tup [.str wFound, .str (kindT d)] := by simp [toldD, hd]
  have k1 : toldD 1 d = .tup [.str wFound, .str (textOf d)] := by simp [toldD, hd]
  have k2 : toldD 2 (.str (textOf d)) = .tup [.str wFound, d] := by simp [toldD, read_back hd]
  generalize textOf d = tx at *
  generalize kindT d = kx at *
  simp [-Bool.exists_bool, G.told, G.same, G.isread]
  refine use_told (.inl rfl) hp ?_
  rw [k0]
  simp [-Bool.exists_bool]
  refine use_told (.inr rfl) hp ?_
  rw [k1]
  simp [-Bool.exists_bool]
  refine use_told2 (by omega) ?_
  rw [k2]
  simp [-Bool.exists_bool, at_0, at_1]
  refine ⟨d, rfl, hd, ?_⟩
  simp [-Bool.exists_bool]
  refine use_read (by omega) ?_
  simp [-Bool.exists_bool]
  exact R _
theorem b_law (G : LawG Γ) : BodyOk Γ x_law 1 16 sp_law := by
  rintro ds S Q E ⟨ns, rfl, h⟩
  refine ⟨rfl, ?_⟩
  have R := fun (S' : DS) (t : Addr) (zs' : List D) (d : D) a b c => law_a (E := E) (Q := Q) (S := S') (zs := zs') (d := d) (ns := ns) (t := t) G a b c h
  rw [show x_law = x_law.take 5 ++ x_law.drop 5 from rfl]
  generalize x_law.drop 5 = rest at R
  simp only [x_law, List.drop_succ_cons, List.drop_zero, List.take_succ_cons, List.take_zero]
  simp [-Bool.exists_bool, st0, G.value, G.written]
  intro t ht
  refine use_gvalue DS.upd_same (by simp) fun d zs1 hd h1 => ?_
  rw [DS.upd_upd]
  refine use_written hd ?_
  have := R (S.upd t (.lst zs1)) t zs1 d DS.upd_same (by simp at h1; omega) hd
  cases d <;> try (simp [isValue, isSingle, isText] at hd; done)
  all_goals (simp [-Bool.exists_bool, subTy]; exact this)
end
end PV

set_option linter.all false
/-! the head with its facts -/
namespace K01
open PySem PySem.Spec PyProof.Rows L2 TL DL PV
set_option Elab.async false
set_option maxRecDepth 100000
set_option maxHeartbeats 0
def names0 : List Str := [("SettingError" : Str), ("Fault" : Str), ("BadValue" : Str), ("BadPath" : Str), ("NoPath" : Str), ("Twice" : Str), ("WrongKind" : Str), ("BadWish" : Str), ("Ring" : Str), ("BadFill" : Str), ("BadDeed" : Str), ("Nothing" : Str), ("FIGURES" : Str), ("MOST_FIGURES" : Str), ("MOST_ITEMS" : Str), ("MOST_TEXT" : Str), ("ESCAPES" : Str), ("is_sign" : Str), ("is_text" : Str), ("is_single" : Str), ("is_value" : Str), ("look_value" : Str), ("kind" : Str), ("kind_of" : Str), ("quoted" : Str), ("value_text" : Str), ("text_of" : Str), ("number_at" : Str), ("text_at" : Str), ("single_at" : Str), ("blanks_from" : Str), ("value_at" : Str), ("read_value" : Str), ("_law_cell" : Str), ("_law_mix" : Str)]
def names1 : List Str := [("_law_draw" : Str), ("_law_pick" : Str), ("_law_refusal" : Str), ("_law_sign" : Str), ("_law_single" : Str), ("_law_value" : Str), ("_law_written" : Str), ("_law_same" : Str), ("_law_take" : Str), ("_law_take_list" : Str), ("_law_told" : Str), ("_law_is_read" : Str)]
def names : List Str := names0 ++ names1
def d_is_sign : He.DefD := ⟨("is_sign", none), "is_sign", "is_sign", defArgs (top 19), defBody (top 19), defScope (top 19), [], []⟩
def d_is_text : He.DefD := ⟨("is_text", none), "is_text", "is_text", defArgs (top 20), defBody (top 20), defScope (top 20), [], []⟩
def d_is_single : He.DefD := ⟨("is_single", none), "is_single", "is_single", defArgs (top 21), defBody (top 21), defScope (top 21), [], []⟩
def d_is_value : He.DefD := ⟨("is_value", none), "is_value", "is_value", defArgs (top 22), defBody (top 22), defScope (top 22), [], []⟩
def d_look_value : He.DefD := ⟨("look_value", none), "look_value", "look_value", defArgs (top 23), defBody (top 23), defScope (top 23), [], []⟩
def d_kind : He.DefD := ⟨("kind", none), "kind", "kind", defArgs (top 24), defBody (top 24), defScope (top 24), [], []⟩
def d_kind_of : He.DefD := ⟨("kind_of", none), "kind_of", "kind_of", defArgs (top 25), defBody (top 25), defScope (top 25), [], []⟩
def d_quoted : He.DefD := ⟨("quoted", none), "quoted", "quoted", defArgs (top 26), defBody (top 26), defScope (top 26), [], []⟩
def d_value_text : He.DefD := ⟨("value_text", none), "value_text", "value_text", defArgs (top 27), defBody (top 27), defScope (top 27), [], []⟩
def d_text_of : He.DefD := ⟨("text_of", none), "text_of", "text_of", defArgs (top 28), defBody (top 28), defScope (top 28), [], []⟩
def d_number_at : He.DefD := ⟨("number_at", none), "number_at", "number_at", defArgs (top 29), defBody (top 29), defScope (top 29), [], []⟩
def d_text_at : He.DefD := ⟨("text_at", none), "text_at", "text_at", defArgs (top 30), defBody (top 30), defScope (top 30), [], []⟩
def d_single_at : He.DefD := ⟨("single_at", none), "single_at", "single_at", defArgs (top 31), defBody (top 31), defScope (top 31), [], []⟩
def d_blanks_from : He.DefD := ⟨("blanks_from", none), "blanks_from", "blanks_from", defArgs (top 32), defBody (top 32), defScope (top 32), [], []⟩
def d_value_at : He.DefD := ⟨("value_at", none), "value_at", "value_at", defArgs (top 33), defBody (top 33), defScope (top 33), [], []⟩
def d_read_value : He.DefD := ⟨("read_value", none), "read_value", "read_value", defArgs (top 34), defBody (top 34), defScope (top 34), [], []⟩
def d__law_cell : He.DefD := ⟨("_law_cell", none), "_law_cell", "_law_cell", defArgs (top 36), defBody (top 36), defScope (top 36), [], []⟩
def d__law_mix : He.DefD := ⟨("_law_mix", none), "_law_mix", "_law_mix", defArgs (top 37), defBody (top 37), defScope (top 37), [], []⟩
def d__law_draw : He.DefD := ⟨("_law_draw", none), "_law_draw", "_law_draw", defArgs (top 38), defBody (top 38), defScope (top 38), [], []⟩
def d__law_pick : He.DefD := ⟨("_law_pick", none), "_law_pick", "_law_pick", defArgs (top 39), defBody (top 39), defScope (top 39), [], []⟩
def d__law_refusal : He.DefD := ⟨("_law_refusal", none), "_law_refusal", "_law_refusal", defArgs (top 40), defBody (top 40), defScope (top 40), [], []⟩
def d__law_sign : He.DefD := ⟨("_law_sign", none), "_law_sign", "_law_sign", defArgs (top 41), defBody (top 41), defScope (top 41), [], []⟩
def d__law_single : He.DefD := ⟨("_law_single", none), "_law_single", "_law_single", defArgs (top 42), defBody (top 42), defScope (top 42), [], []⟩
def d__law_value : He.DefD := ⟨("_law_value", none), "_law_value", "_law_value", defArgs (top 43), defBody (top 43), defScope (top 43), [], []⟩
def d__law_written : He.DefD := ⟨("_law_written", none), "_law_written", "_law_written", defArgs (top 44), defBody (top 44), defScope (top 44), [], []⟩
def d__law_same : He.DefD := ⟨("_law_same", none), "_law_same", "_law_same", defArgs (top 45), defBody (top 45), defScope (top 45), [], []⟩
def d__law_take : He.DefD := ⟨("_law_take", none), "_law_take", "_law_take", defArgs (top 46), defBody (top 46), defScope (top 46), [], []⟩
def d__law_take_list : He.DefD := ⟨("_law_take_list", none), "_law_take_list", "_law_take_list", defArgs (top 47), defBody (top 47), defScope (top 47), [], []⟩
def d__law_told : He.DefD := ⟨("_law_told", none), "_law_told", "_law_told", defArgs (top 48), defBody (top 48), defScope (top 48), [], []⟩
def d__law_is_read : He.DefD := ⟨("_law_is_read", none), "_law_is_read", "_law_is_read", defArgs (top 49), defBody (top 49), defScope (top 49), [], []⟩
def d_law : He.DefD := ⟨("law", none), "law", "law", defArgs (top 50), defBody (top 50), defScope (top 50), [], []⟩
def fn0 : List He.DefD := [d_is_sign, d_is_text, d_is_single, d_is_value, d_look_value, d_kind, d_kind_of, d_quoted, d_value_text, d_text_of, d_number_at, d_text_at, d_single_at, d_blanks_from, d_value_at, d_read_value, d__law_cell, d__law_mix, d__law_draw, d__law_pick]
def fn1 : List He.DefD := [d__law_refusal, d__law_sign, d__law_single, d__law_value, d__law_written, d__law_same, d__law_take, d__law_take_list, d__law_told, d__law_is_read, d_law]
def fn : List He.DefD := fn0 ++ fn1
def fg0 : List He.Fa := [.glo "is_sign", .glo "is_text", .glo "is_single", .glo "is_value", .glo "look_value", .glo "kind", .glo "kind_of", .glo "quoted", .glo "value_text", .glo "text_of", .glo "number_at", .glo "text_at", .glo "single_at", .glo "blanks_from", .glo "value_at", .glo "read_value", .glo "_law_cell", .glo "_law_mix", .glo "_law_draw", .glo "_law_pick"]
def fg1 : List He.Fa := [.glo "_law_refusal", .glo "_law_sign", .glo "_law_single", .glo "_law_value", .glo "_law_written", .glo "_law_same", .glo "_law_take", .glo "_law_take_list", .glo "_law_told", .glo "_law_is_read", .glo "law"]
def fc : List He.Fa := [.str "FIGURES" (tS [48, 49, 50, 51, 52, 53, 54, 55, 56, 57]), .int "MOST_FIGURES" (9), .int "MOST_ITEMS" (20), .int "MOST_TEXT" (200)]
def fb : List He.Fa := (biNames.map fun n => He.Fa.free (Str.ofString n)) ++ [.free "ValueError"]
def fx : List He.Fa := exAll.map fun n => He.Fa.glo (Str.ofString n)
def fg : List He.Fa := fg0 ++ fg1
def fe : List He.Fa := [.glo "ESCAPES"]
def fa : List He.Fa := fx ++ (fb ++ (fc ++ (fe ++ fg)))
theorem in_fx {T : String} (h : T ∈ exAll) : He.Fa.glo (Str.ofString T) ∈ fa := List.mem_append_left _ (List.mem_map_of_mem h)
theorem in_fb {n : String} (h : n ∈ biNames) : He.Fa.free (Str.ofString n) ∈ fa := List.mem_append_right _ (List.mem_append_left _ (List.mem_append_left _ (List.mem_map_of_mem h)))
theorem in_ve : He.Fa.free (Str.ofString "ValueError") ∈ fa := List.mem_append_right _ (List.mem_append_left _ (List.mem_append_right _ List.mem_cons_self))
theorem in_fc {f : He.Fa} (h : f ∈ fc) : f ∈ fa := List.mem_append_right _ (List.mem_append_right _ (List.mem_append_left _ h))
theorem in_fe {f : He.Fa} (h : f ∈ fe) : f ∈ fa := List.mem_append_right _ (List.mem_append_right _ (List.mem_append_right _ (List.mem_append_left _ h)))
theorem in_fg {f : He.Fa} (h : f ∈ fg) : f ∈ fa := List.mem_append_right _ (List.mem_append_right _ (List.mem_append_right _ (List.mem_append_right _ h)))
def exB (K : PySem.W.Frag) : Bool := exB0 K && gdVB K "ESCAPES" escL
abbrev R : PySem.W.OpenRow := PySem.W.OpenLaw.row PySem.Challenge.rw_settingbook_k01_whole_values
def ts : List He.Tab := [(fun K => He.ga K "ESCAPES", [tS [92], tS [34], tS [110]])]
abbrev hk : PySem.W.Hook := He.hookX 4 fa fn ts [] exB
def ob (s : PySem.W.SharedT) : He.AlX := He.obsX 4 fa fn ts [] exB (HandSHeadRun.getT s)
theorem ob_eq (s : PySem.W.SharedT) : ob s = hk.obs s.abs := He.obsX_eq (HandSHeadRun.getT_eq s)
theorem run_f (w : World) : HandSHeadRun.RunEq R (PySem.W.view R.prog [50]) hk ob 4500 names (w.withFollow "special-get-raises" false) := by
  intro os
  kernel_rfl
theorem run_t (w : World) : HandSHeadRun.RunEq R (PySem.W.view R.prog [50]) hk ob 4500 names (w.withFollow "special-get-raises" true) := by
  intro os
  kernel_rfl
theorem run (w : World) : HandSHeadRun.RunEq R (PySem.W.view R.prog [50]) hk ob 4500 names w := PySem.W.byRow2 "special-get-raises" run_f run_t w
end K01

set_option linter.all false
set_option autoImplicit false
namespace K01
open PySem PySem.Spec PyProof.Rows L2 TL DL PV
set_option maxHeartbeats 1000000
def gvs : List (String × D) := [("FIGURES", .str [48, 49, 50, 51, 52, 53, 54, 55, 56, 57]), ("MOST_FIGURES", .int 9), ("MOST_ITEMS", .int 20), ("MOST_TEXT", .int 200)]
def gds : List (String × List (Tx × Tx)) := [("ESCAPES", escL)]
def gvf (x : String) : Option D := gvs.lookup x
def gdf (x : String) : Option (List (Tx × Tx)) := gds.lookup x
section
variable {P : Program} {w : World} {K : PySem.W.Frag} {h : Heap} {mg : Str → Option Value} {base : Heap}
theorem base_ok (X : K.In h) (G : h.Ns mainGlobals mg) (c : He.SaysX fa fn ts [] exB w h K) : BaseOk P w K mg base gvf gdf where
  gv := fun x d e => by
    have hm := lookup_mem e
    simp only [gvs, List.mem_cons, List.not_mem_nil, or_false, Prod.mk.injEq] at hm
    rcases hm with ⟨rfl, rfl⟩ | ⟨rfl, rfl⟩ | ⟨rfl, rfl⟩ | ⟨rfl, rfl⟩
    · obtain ⟨t, ht⟩ := He.str_ok X G (c.t.d.facts (f := .str "FIGURES" (tS [48, 49, 50, 51, 52, 53, 54, 55, 56, 57])) (in_fc (by simp [fc])))
      exact ⟨_, .str (tS [48, 49, 50, 51, 52, 53, 54, 55, 56, 57]), ht, ⟨_, rfl⟩, fun F => by simp only [RepV]; exact ⟨trivial, by decide, by decide⟩⟩
    · obtain ⟨t, ht⟩ := He.int_ok X G (c.t.d.facts (f := .int "MOST_FIGURES" 9) (in_fc (by simp [fc])))
      exact ⟨_, .int 9, ht, ⟨_, rfl⟩, fun F => by simp only [RepV]⟩
    · obtain ⟨t, ht⟩ := He.int_ok X G (c.t.d.facts (f := .int "MOST_ITEMS" 20) (in_fc (by simp [fc])))
      exact ⟨_, .int 20, ht, ⟨_, rfl⟩, fun F => by simp only [RepV]⟩
    · obtain ⟨t, ht⟩ := He.int_ok X G (c.t.d.facts (f := .int "MOST_TEXT" 200) (in_fc (by simp [fc])))
      exact ⟨_, .int 200, ht, ⟨_, rfl⟩, fun F => by simp only [RepV]⟩
  bi := fun n hn => He.free_ok X G (c.t.d.facts (in_fb hn))
  noV := He.free_ok X G (c.t.d.facts in_ve)
  glob := fun T hT => He.glo_ok X G (c.t.d.facts (in_fx hT))
  ex0 := (He.ba c.more).1
  gd := fun x l e => by
    have hm := lookup_mem e
    simp only [gds, List.mem_cons, List.not_mem_nil, or_false, Prod.mk.injEq] at hm
    obtain ⟨rfl, rfl⟩ := hm
    have e2 := congrArg (fun z : He.AlT => z.2) c.t
    have e3 : [He.dicW K (He.ga K "ESCAPES")] = [some (He.keysIn w.params [tS [92], tS [34], tS [110]])] := e2
    exact gd_ok (He.glo_ok X G (c.t.d.facts (in_fe List.mem_cons_self))) (List.cons.inj e3).1 (He.ba c.more).2

variable (X : K.In h) (G : h.Ns mainGlobals mg) (c : He.SaysX fa fn ts [] exB w h K)
include X G c in
theorem k_is_sign : Kept P w K mg base 1 "is_sign" sp_is_sign := by
  refine kept (d := d_is_sign) (f := "is_sign") (N := n_is_sign) (ps := p_is_sign) (xs := x_is_sign) (l := []) (base_ok X G c) rfl ⟨rfl, rfl⟩ (c.t.d.def_ 0 (d := d_is_sign) rfl) (He.glo_ok X G (c.t.d.facts (in_fg (by simp [fg, fg0, fg1])))) c_is_sign (fun _ _ _ _ _ _ us hl => match us, hl with | [_], _ => rfl) ?_ (b_is_sign)
  intro q hq; cases hq
include X G c in
theorem k_is_text : Kept P w K mg base 2 "is_text" sp_is_text := by
  refine kept (d := d_is_text) (f := "is_text") (N := n_is_text) (ps := p_is_text) (xs := x_is_text) (l := [("is_sign", sp_is_sign)]) (base_ok X G c) rfl ⟨rfl, rfl⟩ (c.t.d.def_ 1 (d := d_is_text) rfl) (He.glo_ok X G (c.t.d.facts (in_fg (by simp [fg, fg0, fg1])))) c_is_text (fun _ _ _ _ _ _ us hl => match us, hl with | [_], _ => rfl) ?_ (b_is_text rfl rfl)
  intro q hq
  simp only [List.mem_cons, List.not_mem_nil, or_false] at hq
  rcases hq with rfl
  · exact (k_is_sign X G c).mono (by decide)
include X G c in
theorem k_is_single : Kept P w K mg base 3 "is_single" sp_is_single := by
  refine kept (d := d_is_single) (f := "is_single") (N := n_is_single) (ps := p_is_single) (xs := x_is_single) (l := [("is_text", sp_is_text)]) (base_ok X G c) rfl ⟨rfl, rfl⟩ (c.t.d.def_ 2 (d := d_is_single) rfl) (He.glo_ok X G (c.t.d.facts (in_fg (by simp [fg, fg0, fg1])))) c_is_single (fun _ _ _ _ _ _ us hl => match us, hl with | [_], _ => rfl) ?_ (b_is_single rfl)
  intro q hq
  simp only [List.mem_cons, List.not_mem_nil, or_false] at hq
  rcases hq with rfl
  · exact (k_is_text X G c).mono (by decide)
include X G c in
theorem k_is_value : Kept P w K mg base 4 "is_value" sp_is_value := by
  refine kept (d := d_is_value) (f := "is_value") (N := n_is_value) (ps := p_is_value) (xs := x_is_value) (l := [("is_single", sp_is_single)]) (base_ok X G c) rfl ⟨rfl, rfl⟩ (c.t.d.def_ 3 (d := d_is_value) rfl) (He.glo_ok X G (c.t.d.facts (in_fg (by simp [fg, fg0, fg1])))) c_is_value (fun _ _ _ _ _ _ us hl => match us, hl with | [_], _ => rfl) ?_ (b_is_value rfl rfl)
  intro q hq
  simp only [List.mem_cons, List.not_mem_nil, or_false] at hq
  rcases hq with rfl
  · exact (k_is_single X G c).mono (by decide)
include X G c in
theorem k_look_value : Kept P w K mg base 5 "look_value" sp_look_value := by
  refine kept (d := d_look_value) (f := "look_value") (N := n_look_value) (ps := p_look_value) (xs := x_look_value) (l := [("is_value", sp_is_value)]) (base_ok X G c) rfl ⟨rfl, rfl⟩ (c.t.d.def_ 4 (d := d_look_value) rfl) (He.glo_ok X G (c.t.d.facts (in_fg (by simp [fg, fg0, fg1])))) c_look_value (fun _ _ _ _ _ _ us hl => match us, hl with | [_], _ => rfl) ?_ (b_look_value rfl)
  intro q hq
  simp only [List.mem_cons, List.not_mem_nil, or_false] at hq
  rcases hq with rfl
  · exact (k_is_value X G c).mono (by decide)
include X G c in
theorem k_kind_of : Kept P w K mg base 1 "kind_of" sp_kind_of := by
  refine kept (d := d_kind_of) (f := "kind_of") (N := n_kind_of) (ps := p_kind_of) (xs := x_kind_of) (l := []) (base_ok X G c) rfl ⟨rfl, rfl⟩ (c.t.d.def_ 6 (d := d_kind_of) rfl) (He.glo_ok X G (c.t.d.facts (in_fg (by simp [fg, fg0, fg1])))) c_kind_of (fun _ _ _ _ _ _ us hl => match us, hl with | [_], _ => rfl) ?_ (b_kind_of)
  intro q hq; cases hq
include X G c in
theorem k_kind : Kept P w K mg base 6 "kind" sp_kind := by
  refine kept (d := d_kind) (f := "kind") (N := n_kind) (ps := p_kind) (xs := x_kind) (l := [("look_value", sp_look_value), ("kind_of", sp_kind_of)]) (base_ok X G c) rfl ⟨rfl, rfl⟩ (c.t.d.def_ 5 (d := d_kind) rfl) (He.glo_ok X G (c.t.d.facts (in_fg (by simp [fg, fg0, fg1])))) c_kind (fun _ _ _ _ _ _ us hl => match us, hl with | [_], _ => rfl) ?_ (b_kind rfl rfl)
  intro q hq
  simp only [List.mem_cons, List.not_mem_nil, or_false] at hq
  rcases hq with rfl | rfl
  · exact (k_look_value X G c).mono (by decide)
  · exact (k_kind_of X G c).mono (by decide)
include X G c in
theorem k_quoted : Kept P w K mg base 1 "quoted" sp_quoted := by
  refine kept (d := d_quoted) (f := "quoted") (N := n_quoted) (ps := p_quoted) (xs := x_quoted) (l := []) (base_ok X G c) rfl ⟨rfl, rfl⟩ (c.t.d.def_ 7 (d := d_quoted) rfl) (He.glo_ok X G (c.t.d.facts (in_fg (by simp [fg, fg0, fg1])))) c_quoted (fun _ _ _ _ _ _ us hl => match us, hl with | [_], _ => rfl) ?_ (b_quoted)
  intro q hq; cases hq
include X G c in
theorem k_text1 : Kept P w K mg base 2 "text_of" sp_text1 := by
  refine kept (d := d_text_of) (f := "text_of") (N := n_text_of) (ps := p_text_of) (xs := x_text_of) (l := [("quoted", sp_quoted)]) (base_ok X G c) rfl ⟨rfl, rfl⟩ (c.t.d.def_ 9 (d := d_text_of) rfl) (He.glo_ok X G (c.t.d.facts (in_fg (by simp [fg, fg0, fg1])))) c_text_of (fun _ _ _ _ _ _ us hl => match us, hl with | [_], _ => rfl) ?_ (b_text1 rfl)
  intro q hq
  simp only [List.mem_cons, List.not_mem_nil, or_false] at hq
  rcases hq with rfl
  · exact (k_quoted X G c).mono (by decide)
include X G c in
theorem k_text2 : Kept P w K mg base 3 "text_of" sp_text2 := by
  refine kept (d := d_text_of) (f := "text_of") (N := n_text_of) (ps := p_text_of) (xs := x_text_of) (l := [("quoted", sp_quoted), ("text_of", sp_text1)]) (base_ok X G c) rfl ⟨rfl, rfl⟩ (c.t.d.def_ 9 (d := d_text_of) rfl) (He.glo_ok X G (c.t.d.facts (in_fg (by simp [fg, fg0, fg1])))) c_text_of (fun _ _ _ _ _ _ us hl => match us, hl with | [_], _ => rfl) ?_ (b_text2 rfl rfl)
  intro q hq
  simp only [List.mem_cons, List.not_mem_nil, or_false] at hq
  rcases hq with rfl | rfl
  · exact (k_quoted X G c).mono (by decide)
  · exact (k_text1 X G c).mono (by decide)
include X G c in
theorem k_value_text : Kept P w K mg base 6 "value_text" sp_value_text := by
  refine kept (d := d_value_text) (f := "value_text") (N := n_value_text) (ps := p_value_text) (xs := x_value_text) (l := [("look_value", sp_look_value), ("text_of", sp_text2)]) (base_ok X G c) rfl ⟨rfl, rfl⟩ (c.t.d.def_ 8 (d := d_value_text) rfl) (He.glo_ok X G (c.t.d.facts (in_fg (by simp [fg, fg0, fg1])))) c_value_text (fun _ _ _ _ _ _ us hl => match us, hl with | [_], _ => rfl) ?_ (b_value_text rfl rfl)
  intro q hq
  simp only [List.mem_cons, List.not_mem_nil, or_false] at hq
  rcases hq with rfl | rfl
  · exact (k_look_value X G c).mono (by decide)
  · exact (k_text2 X G c).mono (by decide)
include X G c in
theorem k_number_at : Kept P w K mg base 1 "number_at" sp_number_at := by
  refine kept (d := d_number_at) (f := "number_at") (N := n_number_at) (ps := p_number_at) (xs := x_number_at) (l := []) (base_ok X G c) rfl ⟨rfl, rfl⟩ (c.t.d.def_ 10 (d := d_number_at) rfl) (He.glo_ok X G (c.t.d.facts (in_fg (by simp [fg, fg0, fg1])))) c_number_at (fun _ _ _ _ _ _ us hl => match us, hl with | [_, _], _ => rfl) ?_ (b_number_at rfl rfl)
  intro q hq; cases hq
include X G c in
theorem k_text_at : Kept P w K mg base 1 "text_at" sp_text_at := by
  refine kept (d := d_text_at) (f := "text_at") (N := n_text_at) (ps := p_text_at) (xs := x_text_at) (l := []) (base_ok X G c) rfl ⟨rfl, rfl⟩ (c.t.d.def_ 11 (d := d_text_at) rfl) (He.glo_ok X G (c.t.d.facts (in_fg (by simp [fg, fg0, fg1])))) c_text_at (fun _ _ _ _ _ _ us hl => match us, hl with | [_, _], _ => rfl) ?_ (b_text_at rfl rfl)
  intro q hq; cases hq
include X G c in
theorem k_single_at : Kept P w K mg base 2 "single_at" sp_single_at := by
  refine kept (d := d_single_at) (f := "single_at") (N := n_single_at) (ps := p_single_at) (xs := x_single_at) (l := [("text_at", sp_text_at), ("number_at", sp_number_at)]) (base_ok X G c) rfl ⟨rfl, rfl⟩ (c.t.d.def_ 12 (d := d_single_at) rfl) (He.glo_ok X G (c.t.d.facts (in_fg (by simp [fg, fg0, fg1])))) c_single_at (fun _ _ _ _ _ _ us hl => match us, hl with | [_, _], _ => rfl) ?_ (b_single_at rfl rfl)
  intro q hq
  simp only [List.mem_cons, List.not_mem_nil, or_false] at hq
  rcases hq with rfl | rfl
  · exact (k_text_at X G c).mono (by decide)
  · exact (k_number_at X G c).mono (by decide)
include X G c in
theorem k_blanks_from : Kept P w K mg base 1 "blanks_from" sp_blanks := by
  refine kept (d := d_blanks_from) (f := "blanks_from") (N := n_blanks_from) (ps := p_blanks_from) (xs := x_blanks_from) (l := []) (base_ok X G c) rfl ⟨rfl, rfl⟩ (c.t.d.def_ 13 (d := d_blanks_from) rfl) (He.glo_ok X G (c.t.d.facts (in_fg (by simp [fg, fg0, fg1])))) c_blanks_from (fun _ _ _ _ _ _ us hl => match us, hl with | [_, _], _ => rfl) ?_ (b_blanks_from)
  intro q hq; cases hq
include X G c in
theorem k_value_at : Kept P w K mg base 3 "value_at" sp_value_at := by
  refine kept (d := d_value_at) (f := "value_at") (N := n_value_at) (ps := p_value_at) (xs := x_value_at) (l := [("single_at", sp_single_at), ("blanks_from", sp_blanks)]) (base_ok X G c) rfl ⟨rfl, rfl⟩ (c.t.d.def_ 14 (d := d_value_at) rfl) (He.glo_ok X G (c.t.d.facts (in_fg (by simp [fg, fg0, fg1])))) c_value_at (fun _ _ _ _ _ _ us hl => match us, hl with | [_, _], _ => rfl) ?_ (b_value_at rfl rfl rfl)
  intro q hq
  simp only [List.mem_cons, List.not_mem_nil, or_false] at hq
  rcases hq with rfl | rfl
  · exact (k_single_at X G c).mono (by decide)
  · exact (k_blanks_from X G c).mono (by decide)
include X G c in
theorem k_read_value : Kept P w K mg base 4 "read_value" sp_read_value := by
  refine kept (d := d_read_value) (f := "read_value") (N := n_read_value) (ps := p_read_value) (xs := x_read_value) (l := [("is_sign", sp_is_sign), ("value_at", sp_value_at)]) (base_ok X G c) rfl ⟨rfl, rfl⟩ (c.t.d.def_ 15 (d := d_read_value) rfl) (He.glo_ok X G (c.t.d.facts (in_fg (by simp [fg, fg0, fg1])))) c_read_value (fun _ _ _ _ _ _ us hl => match us, hl with | [_], _ => rfl) ?_ (b_read_value rfl rfl)
  intro q hq
  simp only [List.mem_cons, List.not_mem_nil, or_false] at hq
  rcases hq with rfl | rfl
  · exact (k_is_sign X G c).mono (by decide)
  · exact (k_value_at X G c).mono (by decide)
include X G c in
theorem k__law_cell : Kept P w K mg base 1 "_law_cell" sp_cell := by
  refine kept (d := d__law_cell) (f := "_law_cell") (N := n__law_cell) (ps := p__law_cell) (xs := x__law_cell) (l := []) (base_ok X G c) rfl ⟨rfl, rfl⟩ (c.t.d.def_ 16 (d := d__law_cell) rfl) (He.glo_ok X G (c.t.d.facts (in_fg (by simp [fg, fg0, fg1])))) c__law_cell (fun _ _ _ _ _ _ us hl => match us, hl with | [_, _], _ => rfl) ?_ (b_cell)
  intro q hq; cases hq
include X G c in
theorem k__law_mix : Kept P w K mg base 2 "_law_mix" sp_mix := by
  refine kept (d := d__law_mix) (f := "_law_mix") (N := n__law_mix) (ps := p__law_mix) (xs := x__law_mix) (l := [("_law_cell", sp_cell)]) (base_ok X G c) rfl ⟨rfl, rfl⟩ (c.t.d.def_ 17 (d := d__law_mix) rfl) (He.glo_ok X G (c.t.d.facts (in_fg (by simp [fg, fg0, fg1])))) c__law_mix (fun _ _ _ _ _ _ us hl => match us, hl with | [_, _], _ => rfl) ?_ (b_mix rfl)
  intro q hq
  simp only [List.mem_cons, List.not_mem_nil, or_false] at hq
  rcases hq with rfl
  · exact (k__law_cell X G c).mono (by decide)
include X G c in
theorem k__law_draw : Kept P w K mg base 3 "_law_draw" sp_draw := by
  refine kept (d := d__law_draw) (f := "_law_draw") (N := n__law_draw) (ps := p__law_draw) (xs := x__law_draw) (l := [("_law_mix", sp_mix)]) (base_ok X G c) rfl ⟨rfl, rfl⟩ (c.t.d.def_ 18 (d := d__law_draw) rfl) (He.glo_ok X G (c.t.d.facts (in_fg (by simp [fg, fg0, fg1])))) c__law_draw (fun _ _ _ _ _ _ us hl => match us, hl with | [_, _, _], _ => rfl) ?_ (b_draw rfl)
  intro q hq
  simp only [List.mem_cons, List.not_mem_nil, or_false] at hq
  rcases hq with rfl
  · exact (k__law_mix X G c).mono (by decide)
include X G c in
theorem k__law_pick : Kept P w K mg base 4 "_law_pick" sp_pick := by
  refine kept (d := d__law_pick) (f := "_law_pick") (N := n__law_pick) (ps := p__law_pick) (xs := x__law_pick) (l := [("_law_draw", sp_draw)]) (base_ok X G c) rfl ⟨rfl, rfl⟩ (c.t.d.def_ 19 (d := d__law_pick) rfl) (He.glo_ok X G (c.t.d.facts (in_fg (by simp [fg, fg0, fg1])))) c__law_pick (fun _ _ _ _ _ _ us hl => match us, hl with | [_, _, _], _ => rfl) ?_ (b_pick rfl)
  intro q hq
  simp only [List.mem_cons, List.not_mem_nil, or_false] at hq
  rcases hq with rfl
  · exact (k__law_draw X G c).mono (by decide)
include X G c in
theorem k__law_refusal : Kept P w K mg base 1 "_law_refusal" sp_refusal := by
  refine kept (d := d__law_refusal) (f := "_law_refusal") (N := n__law_refusal) (ps := p__law_refusal) (xs := x__law_refusal) (l := []) (base_ok X G c) rfl ⟨rfl, rfl⟩ (c.t.d.def_ 20 (d := d__law_refusal) rfl) (He.glo_ok X G (c.t.d.facts (in_fg (by simp [fg, fg0, fg1])))) c__law_refusal (fun _ _ _ _ _ _ us hl => match us, hl with | [_], _ => rfl) ?_ (b_refusal)
  intro q hq; cases hq
include X G c in
theorem k__law_sign : Kept P w K mg base 5 "_law_sign" sp_sign := by
  refine kept (d := d__law_sign) (f := "_law_sign") (N := n__law_sign) (ps := p__law_sign) (xs := x__law_sign) (l := [("_law_draw", sp_draw), ("_law_pick", sp_pick)]) (base_ok X G c) rfl ⟨rfl, rfl⟩ (c.t.d.def_ 21 (d := d__law_sign) rfl) (He.glo_ok X G (c.t.d.facts (in_fg (by simp [fg, fg0, fg1])))) c__law_sign (fun _ _ _ _ _ _ us hl => match us, hl with | [_, _], _ => rfl) ?_ (b_sign rfl rfl)
  intro q hq
  simp only [List.mem_cons, List.not_mem_nil, or_false] at hq
  rcases hq with rfl | rfl
  · exact (k__law_draw X G c).mono (by decide)
  · exact (k__law_pick X G c).mono (by decide)
include X G c in
theorem k__law_single : Kept P w K mg base 6 "_law_single" sp_single := by
  refine kept (d := d__law_single) (f := "_law_single") (N := n__law_single) (ps := p__law_single) (xs := x__law_single) (l := [("_law_draw", sp_draw), ("_law_pick", sp_pick), ("_law_sign", sp_sign)]) (base_ok X G c) rfl ⟨rfl, rfl⟩ (c.t.d.def_ 22 (d := d__law_single) rfl) (He.glo_ok X G (c.t.d.facts (in_fg (by simp [fg, fg0, fg1])))) c__law_single (fun _ _ _ _ _ _ us hl => match us, hl with | [_, _], _ => rfl) ?_ (b_single rfl rfl rfl)
  intro q hq
  simp only [List.mem_cons, List.not_mem_nil, or_false] at hq
  rcases hq with rfl | rfl | rfl
  · exact (k__law_draw X G c).mono (by decide)
  · exact (k__law_pick X G c).mono (by decide)
  · exact (k__law_sign X G c).mono (by decide)
include X G c in
theorem k__law_value : Kept P w K mg base 7 "_law_value" sp_value := by
  refine kept (d := d__law_value) (f := "_law_value") (N := n__law_value) (ps := p__law_value) (xs := x__law_value) (l := [("_law_draw", sp_draw), ("_law_pick", sp_pick), ("_law_single", sp_single)]) (base_ok X G c) rfl ⟨rfl, rfl⟩ (c.t.d.def_ 23 (d := d__law_value) rfl) (He.glo_ok X G (c.t.d.facts (in_fg (by simp [fg, fg0, fg1])))) c__law_value (fun _ _ _ _ _ _ us hl => match us, hl with | [_, _], _ => rfl) ?_ (b_value rfl rfl rfl)
  intro q hq
  simp only [List.mem_cons, List.not_mem_nil, or_false] at hq
  rcases hq with rfl | rfl | rfl
  · exact (k__law_draw X G c).mono (by decide)
  · exact (k__law_pick X G c).mono (by decide)
  · exact (k__law_single X G c).mono (by decide)
include X G c in
theorem k_written1 : Kept P w K mg base 1 "_law_written" sp_written1 := by
  refine kept (d := d__law_written) (f := "_law_written") (N := n__law_written) (ps := p__law_written) (xs := x__law_written) (l := []) (base_ok X G c) rfl ⟨rfl, rfl⟩ (c.t.d.def_ 24 (d := d__law_written) rfl) (He.glo_ok X G (c.t.d.facts (in_fg (by simp [fg, fg0, fg1])))) c__law_written (fun _ _ _ _ _ _ us hl => match us, hl with | [_], _ => rfl) ?_ (b_written1)
  intro q hq; cases hq
include X G c in
theorem k_written2 : Kept P w K mg base 2 "_law_written" sp_written2 := by
  refine kept (d := d__law_written) (f := "_law_written") (N := n__law_written) (ps := p__law_written) (xs := x__law_written) (l := [("_law_written", sp_written1)]) (base_ok X G c) rfl ⟨rfl, rfl⟩ (c.t.d.def_ 24 (d := d__law_written) rfl) (He.glo_ok X G (c.t.d.facts (in_fg (by simp [fg, fg0, fg1])))) c__law_written (fun _ _ _ _ _ _ us hl => match us, hl with | [_], _ => rfl) ?_ (b_written2 rfl)
  intro q hq
  simp only [List.mem_cons, List.not_mem_nil, or_false] at hq
  rcases hq with rfl
  · exact (k_written1 X G c).mono (by decide)
include X G c in
theorem k_same1 : Kept P w K mg base 1 "_law_same" sp_same1 := by
  refine kept (d := d__law_same) (f := "_law_same") (N := n__law_same) (ps := p__law_same) (xs := x__law_same) (l := []) (base_ok X G c) rfl ⟨rfl, rfl⟩ (c.t.d.def_ 25 (d := d__law_same) rfl) (He.glo_ok X G (c.t.d.facts (in_fg (by simp [fg, fg0, fg1])))) c__law_same (fun _ _ _ _ _ _ us hl => match us, hl with | [_, _], _ => rfl) ?_ (b_same1)
  intro q hq; cases hq
include X G c in
theorem k_same2 : Kept P w K mg base 2 "_law_same" sp_same2 := by
  refine kept (d := d__law_same) (f := "_law_same") (N := n__law_same) (ps := p__law_same) (xs := x__law_same) (l := [("_law_same", sp_same1)]) (base_ok X G c) rfl ⟨rfl, rfl⟩ (c.t.d.def_ 25 (d := d__law_same) rfl) (He.glo_ok X G (c.t.d.facts (in_fg (by simp [fg, fg0, fg1])))) c__law_same (fun _ _ _ _ _ _ us hl => match us, hl with | [_, _], _ => rfl) ?_ (b_same2 rfl)
  intro q hq
  simp only [List.mem_cons, List.not_mem_nil, or_false] at hq
  rcases hq with rfl
  · exact (k_same1 X G c).mono (by decide)
include X G c in
theorem k_take1 : Kept P w K mg base 1 "_law_take" sp_take1 := by
  refine kept (d := d__law_take) (f := "_law_take") (N := n__law_take) (ps := p__law_take) (xs := x__law_take) (l := []) (base_ok X G c) rfl ⟨rfl, rfl⟩ (c.t.d.def_ 26 (d := d__law_take) rfl) (He.glo_ok X G (c.t.d.facts (in_fg (by simp [fg, fg0, fg1])))) c__law_take (fun _ _ _ _ _ _ us hl => match us, hl with | [_], _ => rfl) ?_ (b_take1)
  intro q hq; cases hq
include X G c in
theorem k__law_take_list : Kept P w K mg base 2 "_law_take_list" sp_take_list := by
  refine kept (d := d__law_take_list) (f := "_law_take_list") (N := n__law_take_list) (ps := p__law_take_list) (xs := x__law_take_list) (l := [("_law_take", sp_take1)]) (base_ok X G c) rfl ⟨rfl, rfl⟩ (c.t.d.def_ 27 (d := d__law_take_list) rfl) (He.glo_ok X G (c.t.d.facts (in_fg (by simp [fg, fg0, fg1])))) c__law_take_list (fun _ _ _ _ _ _ us hl => match us, hl with | [_], _ => rfl) ?_ (b_take_list rfl)
  intro q hq
  simp only [List.mem_cons, List.not_mem_nil, or_false] at hq
  rcases hq with rfl
  · exact (k_take1 X G c).mono (by decide)
include X G c in
theorem k_take : Kept P w K mg base 3 "_law_take" sp_take := by
  refine kept (d := d__law_take) (f := "_law_take") (N := n__law_take) (ps := p__law_take) (xs := x__law_take) (l := [("_law_take_list", sp_take_list)]) (base_ok X G c) rfl ⟨rfl, rfl⟩ (c.t.d.def_ 26 (d := d__law_take) rfl) (He.glo_ok X G (c.t.d.facts (in_fg (by simp [fg, fg0, fg1])))) c__law_take (fun _ _ _ _ _ _ us hl => match us, hl with | [_], _ => rfl) ?_ (b_take rfl)
  intro q hq
  simp only [List.mem_cons, List.not_mem_nil, or_false] at hq
  rcases hq with rfl
  · exact (k__law_take_list X G c).mono (by decide)
include X G c in
theorem k__law_told : Kept P w K mg base 7 "_law_told" sp_told := by
  refine kept (d := d__law_told) (f := "_law_told") (N := n__law_told) (ps := p__law_told) (xs := x__law_told) (l := [("kind", sp_kind), ("value_text", sp_value_text), ("read_value", sp_read_value), ("_law_refusal", sp_refusal)]) (base_ok X G c) rfl ⟨rfl, rfl⟩ (c.t.d.def_ 28 (d := d__law_told) rfl) (He.glo_ok X G (c.t.d.facts (in_fg (by simp [fg, fg0, fg1])))) c__law_told (fun _ _ _ _ _ _ us hl => match us, hl with | [_, _], _ => rfl) ?_ (b_told rfl rfl rfl rfl)
  intro q hq
  simp only [List.mem_cons, List.not_mem_nil, or_false] at hq
  rcases hq with rfl | rfl | rfl | rfl
  · exact (k_kind X G c).mono (by decide)
  · exact (k_value_text X G c).mono (by decide)
  · exact (k_read_value X G c).mono (by decide)
  · exact (k__law_refusal X G c).mono (by decide)
include X G c in
theorem k__law_is_read : Kept P w K mg base 8 "_law_is_read" sp_is_read := by
  refine kept (d := d__law_is_read) (f := "_law_is_read") (N := n__law_is_read) (ps := p__law_is_read) (xs := x__law_is_read) (l := [("_law_told", sp_told), ("_law_take", sp_take), ("_law_same", sp_same2)]) (base_ok X G c) rfl ⟨rfl, rfl⟩ (c.t.d.def_ 29 (d := d__law_is_read) rfl) (He.glo_ok X G (c.t.d.facts (in_fg (by simp [fg, fg0, fg1])))) c__law_is_read (fun _ _ _ _ _ _ us hl => match us, hl with | [_], _ => rfl) ?_ (b_is_read rfl rfl rfl)
  intro q hq
  simp only [List.mem_cons, List.not_mem_nil, or_false] at hq
  rcases hq with rfl | rfl | rfl
  · exact (k__law_told X G c).mono (by decide)
  · exact (k_take X G c).mono (by decide)
  · exact (k_same2 X G c).mono (by decide)
include c in
theorem k_law (hfa : mg ("law" : Str) = some (.ref (He.ga K "law"))) : ∃ fd : FuncData, (∀ (s : Shared) (v : Value), BindsTo s fd ⟨[v], []⟩ [("_law_script", v)]) ∧ (∀ (H : Hp) (a : Addr) (ns : List Int), SqL K H a (ns.map V.int) → liftSp0 K sp_law [.ref a] H (fun v _ => v = .bl true) fun _ _ _ => False) ∧
  ∀ (P : Program) (w' : World) (mg : Str → Option Value) (base : Heap), w' = w → K.In h → h.Ns mainGlobals mg → FnOk P w' K mg base CX0 9 (He.ga K "law") fd ["_law_script"] (liftSp0 K sp_law) := by
  obtain ⟨fd, h1, h2, h3⟩ := law_kept (d := d_law) (f := "law") (x := "_law_script") (N := n_law) (xs := x_law) (sp := sp_law) (l := [("_law_draw", sp_draw), ("_law_pick", sp_pick), ("_law_sign", sp_sign), ("_law_single", sp_single), ("_law_value", sp_value), ("_law_written", sp_written2), ("_law_same", sp_same2), ("_law_told", sp_told), ("_law_is_read", sp_is_read)]) (k := 8) rfl ⟨rfl, rfl⟩ (c.t.d.def_ 30 (d := d_law) rfl) c_law (fun _ _ _ _ _ _ us hl => match us, hl with | [_], _ => rfl) (fun ns S Q E hq => ⟨ns, rfl, hq⟩)
  refine ⟨fd, h1, h2, fun P w' mg base e X G => ?_⟩
  subst e
  refine h3 P _ mg base gvf gdf (base_ok X G c) ?_ (b_law ⟨rfl, rfl, rfl, rfl, rfl, rfl, rfl, rfl, rfl⟩)
  intro q hq
  simp only [List.mem_cons, List.not_mem_nil, or_false] at hq
  rcases hq with rfl | rfl | rfl | rfl | rfl | rfl | rfl | rfl | rfl
  · exact (k__law_draw X G c).mono (by decide)
  · exact (k__law_pick X G c).mono (by decide)
  · exact (k__law_sign X G c).mono (by decide)
  · exact (k__law_single X G c).mono (by decide)
  · exact (k__law_value X G c).mono (by decide)
  · exact (k_written2 X G c).mono (by decide)
  · exact (k_same2 X G c).mono (by decide)
  · exact (k__law_told X G c).mono (by decide)
  · exact (k__law_is_read X G c).mono (by decide)
end
end K01
open PySem PySem.W PySem.Calls PyProof.Rows
theorem PySem.Challenge.cw_settingbook_k01_whole_values_holds : PySem.Challenge.rw_settingbook_k01_whole_values.Holds := by
  w_on; o_law
  refine HandSHeadRun.head_any (r := OpenLaw.row PySem.Challenge.rw_settingbook_k01_whole_values) (q := view (OpenLaw.row PySem.Challenge.rw_settingbook_k01_whole_values).prog [50]) (H := K01.hk) (ob := K01.ob) (M := 4500) (loose := K01.names) (d := HandSHeadRun.topDef (OpenLaw.row PySem.Challenge.rw_settingbook_k01_whole_values).prog 50) (kwd := []) K01.ob_eq
    (by kernel_rfl) (fun s => by kernel_rfl) K01.run (by kernel_rfl) (by kernel_rfl) (by kernel_rfl) (by rfl) (by first | assumption | decide +kernel) (by decide +kernel) ⟨rfl, rfl, rfl, rfl, rfl, by decide +kernel⟩ ?hw ?hc
  case hw => w_witness2
  case hc =>
    refine L2.walk_ofE (l := PySem.Challenge.rw_settingbook_k01_whole_values) (n := 63) (k := 9) (x := "_law_script") (CX := L2.CX0) rfl (by decide) (by kernel_rfl) ⟨rfl, by decide, by decide⟩ ?F (fun _ _ _ _ z => z)
    intro w mg fa h Y G hmg0
    obtain ⟨K, KX, c⟩ := Y
    have hmg : mg ("law" : PySem.Str) = some (.ref fa) := by
      have e : (HandSHeadRun.topDef (OpenLaw.row PySem.Challenge.rw_settingbook_k01_whole_values).prog 50).name = ("law" : PySem.Str) := by kernel_rfl
      rw [← e]
      exact hmg0
    have hg := He.glo_ok KX G (c.t.d.facts (K01.in_fg (f := .glo "law") (by simp [K01.fg, K01.fg0, K01.fg1])))
    have e := hmg.symm.trans hg
    cases e
    obtain ⟨fd, h1, h2, h3⟩ := K01.k_law c hg
    exact ⟨K, fd, _, KX, h1, fun H a ns hl _ hS => h2 H a ns hS, fun base _ _ => h3 _ _ mg base rfl KX G⟩
