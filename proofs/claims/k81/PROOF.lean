import PyProof.Rows.All
import Wide.All
import OpenK.AllK
import Wide.FinOn
import HandS.ForMost
import HandS.Evl
import HandS.Style
import HandS.IsInst
import HandS.Deep
import PyProof.MaxThree
import KE.DataMinMax
import KE.DataCmp
import KE.SortData
import HandS.Defaults
import HandS.TupLe
import PySem.Challenge.RW_fewcorners_k81_whole_all_words_listed
set_option Elab.async false
set_option linter.all false
set_option maxRecDepth 100000
set_option maxHeartbeats 4000000
/-! DLa: what a reading evaluates to, told by data; the knowledge heap G grows, the heap H may hold more. -/
namespace DL
open PySem L2
open Evl (Ex)

mutual
inductive Dr (G : Hp) : V → PyData → Prop
  | non : Dr G .non .none
  | bl (b : Bool) : Dr G (.bl b) (.bool b)
  | int (i : Int) : Dr G (.int i) (.int i)
  | str (x : Str) : Dr G (.str x) (.str x)
  | lst {a : Addr} {xs : List V} {ds : List PyData} : G a = some (.lst xs) → DrA G xs ds → Dr G (.ref a) (.list ds)
  | tup {a : Addr} {xs : List V} {ds : List PyData} : G a = some (.tup xs) → DrA G xs ds → Dr G (.ref a) (.tuple ds)
inductive DrA (G : Hp) : List V → List PyData → Prop
  | nil : DrA G [] []
  | cons {v : V} {vs : List V} {d : PyData} {ds : List PyData} : Dr G v d → DrA G vs ds → DrA G (v :: vs) (d :: ds)
end

section
variable {G G' H : Hp}
mutual
theorem Dr.mono (e : Ex G G') : ∀ (d : PyData) (v : V), Dr G v d → Dr G' v d
  | .none, _, h => by cases h; exact .non
  | .bool b, _, h => by cases h; exact .bl b
  | .int i, _, h => by cases h; exact .int i
  | .str x, _, h => by cases h; exact .str x
  | .list ds, _, h => by
    cases h with
    | lst hs ha => exact .lst (e _ _ hs) (DrA.mono e ds _ ha)
  | .tuple ds, _, h => by
    cases h with
    | tup hs ha => exact .tup (e _ _ hs) (DrA.mono e ds _ ha)
  | .dict _, _, h => by cases h
theorem DrA.mono (e : Ex G G') : ∀ (ds : List PyData) (vs : List V), DrA G vs ds → DrA G' vs ds
  | [], _, h => by cases h; exact .nil
  | d :: ds, _, h => by
    cases h with
    | cons h1 h2 => exact .cons (Dr.mono e d _ h1) (DrA.mono e ds _ h2)
end
mutual
theorem Dr.dp {K : PySem.W.Frag} (e : Ex G H) : ∀ (d : PyData) (v : V), Dr G v d → Dp K H v d
  | .none, _, h => by cases h; exact .non
  | .bool b, _, h => by cases h; exact .bl b
  | .int i, _, h => by cases h; exact .int i
  | .str x, _, h => by cases h; exact .str x
  | .list ds, _, h => by
    cases h with
    | lst hs ha => exact .lst (Evl.sq_of (e _ _ hs)) (DrA.dp e ds _ ha)
  | .tuple ds, _, h => by
    cases h with
    | tup hs ha => exact .tup (Evl.st_of (e _ _ hs)) (DrA.dp e ds _ ha)
  | .dict _, _, h => by cases h
theorem DrA.dp {K : PySem.W.Frag} (e : Ex G H) : ∀ (ds : List PyData) (vs : List V), DrA G vs ds → DpAll K H vs ds
  | [], _, h => by cases h; exact .nil
  | d :: ds, _, h => by
    cases h with
    | cons h1 h2 => exact .cons (Dr.dp e d _ h1) (DrA.dp e ds _ h2)
end
theorem DrA.len : ∀ {ds : List PyData} {vs : List V}, DrA G vs ds → vs.length = ds.length
  | [], _, h => by cases h; rfl
  | d :: ds, _, h => by
    cases h with
    | cons h1 h2 => rw [List.length_cons, List.length_cons, DrA.len h2]
theorem DrA.app : ∀ {ds es : List PyData} {vs us : List V}, DrA G vs ds → DrA G us es → DrA G (vs ++ us) (ds ++ es)
  | [], _, _, _, h, k => by cases h; exact k
  | d :: ds, _, _, _, h, k => by
    cases h with
    | cons h1 h2 => exact .cons h1 (DrA.app h2 k)
theorem DrA.take : ∀ {ds : List PyData} {vs : List V} (n : Nat), DrA G vs ds → DrA G (vs.take n) (ds.take n)
  | _, _, 0, _ => .nil
  | [], _, _ + 1, h => by cases h; exact .nil
  | d :: ds, _, n + 1, h => by
    cases h with
    | cons h1 h2 => exact .cons h1 (DrA.take n h2)
theorem DrA.drop : ∀ {ds : List PyData} {vs : List V} (n : Nat), DrA G vs ds → DrA G (vs.drop n) (ds.drop n)
  | _, _, 0, h => h
  | [], _, _ + 1, h => by cases h; exact .nil
  | d :: ds, _, n + 1, h => by
    cases h with
    | cons h1 h2 => exact DrA.drop n h2
theorem DrA.rev : ∀ {ds : List PyData} {vs : List V}, DrA G vs ds → DrA G vs.reverse ds.reverse
  | [], _, h => by cases h; exact .nil
  | d :: ds, _, h => by
    cases h with
    | cons h1 h2 =>
      rw [List.reverse_cons, List.reverse_cons]
      exact (DrA.rev h2).app (.cons h1 .nil)
theorem DrA.rep {ds : List PyData} {vs : List V} (h : DrA G vs ds) : ∀ n : Nat, DrA G (List.replicate n vs).flatten (List.replicate n ds).flatten
  | 0 => .nil
  | n + 1 => by
    rw [List.replicate_succ, List.replicate_succ, List.flatten_cons, List.flatten_cons]
    exact h.app (DrA.rep h n)
theorem DrA.get : ∀ {ds : List PyData} {vs : List V} {i : Nat} {v : V}, DrA G vs ds → vs[i]? = some v → ∃ d, ds[i]? = some d ∧ Dr G v d
  | [], _, _, _, h, e => by cases h; simp at e
  | d :: ds, _, 0, v, h, e => by
    cases h with
    | cons h1 h2 => simp at e; subst e; exact ⟨d, rfl, h1⟩
  | d :: ds, _, i + 1, v, h, e => by
    cases h with
    | cons h1 h2 =>
      obtain ⟨x, a, b⟩ := DrA.get (i := i) (v := v) h2 (by simpa using e)
      exact ⟨x, by simpa using a, b⟩
theorem DrA.at : ∀ {ds : List PyData} {vs : List V} {i : Nat} {d : PyData}, DrA G vs ds → ds[i]? = some d → ∃ v, vs[i]? = some v ∧ Dr G v d
  | [], _, _, _, h, e => by simp at e
  | d :: ds, _, 0, v, h, e => by
    cases h with
    | cons h1 h2 => simp at e; subst e; exact ⟨_, rfl, h1⟩
  | d :: ds, _, i + 1, v, h, e => by
    cases h with
    | cons h1 h2 =>
      obtain ⟨x, a, b⟩ := DrA.at (i := i) (d := v) h2 (by simpa using e)
      exact ⟨x, by simpa using a, b⟩
theorem DrA.ints : ∀ {ns : List Int} {vs : List V}, DrA G vs (ns.map PyData.int) → vs = ns.map V.int
  | [], _, h => by cases h; rfl
  | n :: ns, _, h => by
    cases h with
    | cons h1 h2 =>
      cases h1
      rw [DrA.ints h2]
      rfl
theorem DrA.bools : ∀ {ns : List Bool} {vs : List V}, DrA G vs (ns.map PyData.bool) → vs = ns.map V.bl
  | [], _, h => by cases h; rfl
  | n :: ns, _, h => by
    cases h with
    | cons h1 h2 =>
      cases h1
      rw [DrA.bools h2]
      rfl
theorem DrA.of_ints : ∀ (ns : List Int), DrA G (ns.map V.int) (ns.map PyData.int)
  | [] => .nil
  | n :: ns => .cons (.int n) (DrA.of_ints ns)
end

/-- the knowledge G about H has grown to G' about H'; what was in H unknown stays unknown -/
structure Gw (G H G' H' : Hp) : Prop where
  gg : Ex G G'
  gh : Ex G' H'
  hh : Ex H H'
  fz : ∀ a, H a ≠ none → G a = none → G' a = none
section
variable {G H G1 H1 G2 H2 : Hp}
theorem Gw.refl (e : Ex G H) : Gw G H G H := ⟨Ex.refl G, e, Ex.refl H, fun _ _ h => h⟩
theorem ne_of_ex {a : Addr} (e : Ex H H1) (h : H a ≠ none) : H1 a ≠ none := by
  cases q : H a with
  | none => exact absurd q h
  | some o => rw [e a o q]; intro z; cases z
theorem Gw.trans (a : Gw G H G1 H1) (b : Gw G1 H1 G2 H2) : Gw G H G2 H2 :=
  ⟨a.gg.trans b.gg, b.gh, a.hh.trans b.hh, fun x hx gx => b.fz x (ne_of_ex a.hh hx) (a.fz x hx gx)⟩
/-- a new object is laid and known -/
theorem Gw.new {p : Addr} {o : HO} (e : Ex G H) (hp : H p = none) : Gw G H (upd G p o) (upd H p o) := by
  have gp : G p = none := Evl.fresh_back e hp
  refine ⟨Ex.new gp, fun a u h => ?_, Ex.new hp, fun a h1 h2 => ?_⟩
  · by_cases q : a = p
    · subst q; rw [upd_same] at h ⊢; exact h
    · rw [upd_ne q] at h ⊢; exact e a u h
  · have q : a ≠ p := fun z => h1 (by rw [z]; exact hp)
    rw [upd_ne q]; exact h2
end

abbrev DE := List (Option PyData)
structure EnvR (G : Hp) (σ : St) (ρ : DE) : Prop where
  len : σ.length = ρ.length
  get : ∀ (i : Nat) (d : PyData), ρ[i]? = some (some d) → ∃ v, σ[i]? = some (some v) ∧ Dr G v d
def wipeD (ρ : DE) : List Nat → DE
  | [] => ρ
  | v :: vs => (wipeD ρ vs).set v none
section
variable {G G' : Hp} {σ : St} {ρ : DE}
theorem EnvR.mono (e : Ex G G') (h : EnvR G σ ρ) : EnvR G' σ ρ := ⟨h.len, fun i d q => by
  obtain ⟨v, a, b⟩ := h.get i d q
  exact ⟨v, a, b.mono e⟩⟩
theorem EnvR.set {v : V} {d : PyData} (h : EnvR G σ ρ) (i : Nat) (hd : Dr G v d) : EnvR G (σ.set i (some v)) (ρ.set i (some d)) := ⟨by rw [List.length_set, List.length_set, h.len], fun j e q => by
  by_cases z : i = j
  · subst z
    have hi : i < ρ.length := by
      have := (List.getElem?_eq_some_iff.mp q).1
      rwa [List.length_set] at this
    rw [List.getElem?_set_self hi] at q
    cases q
    exact ⟨v, by rw [List.getElem?_set_self (by rw [h.len]; exact hi)], hd⟩
  · rw [List.getElem?_set_ne z] at q ⊢
    exact h.get j e q⟩
theorem EnvR.setN (h : EnvR G σ ρ) (i : Nat) (x : Option V) : EnvR G (σ.set i x) (ρ.set i none) := ⟨by rw [List.length_set, List.length_set, h.len], fun j e q => by
  by_cases z : i = j
  · subst z
    have hi : i < ρ.length := by
      have := (List.getElem?_eq_some_iff.mp q).1
      rwa [List.length_set] at this
    rw [List.getElem?_set_self hi] at q
    cases q
  · rw [List.getElem?_set_ne z] at q ⊢
    exact h.get j e q⟩
theorem EnvR.wiped (h : EnvR G σ ρ) : ∀ vs : List Nat, EnvR G (wipe σ vs) (wipeD ρ vs)
  | [] => h
  | v :: vs => (EnvR.wiped h vs).setN v none
end

/-! ### what evaluates to what -/
def ED (te : TE) (ρ : DE) (d : PyData) : Prop := ∀ G H σ, Ex G H → EnvR G σ ρ → ∀ Q : VK, (∀ v G2 H2, Gw G H G2 H2 → Dr G2 v d → Q v H2) → te σ H Q
def ET (tt : TT) (ρ : DE) (b : Bool) : Prop := ∀ G H σ, Ex G H → EnvR G σ ρ → ∀ Q : Bool → Hp → Prop, (∀ G2 H2, Gw G H G2 H2 → Q b H2) → tt σ H Q
def EA (ta : TA) (ρ : DE) (ds : List PyData) : Prop := ∀ G H σ, Ex G H → EnvR G σ ρ → ∀ Q : List V → Hp → Prop, (∀ vs G2 H2, Gw G H G2 H2 → DrA G2 vs ds → Q vs H2) → ta σ H Q
def EO (to : TO) (ρ : DE) (o : Option Int) : Prop := ∀ G H σ, Ex G H → EnvR G σ ρ → ∀ Q : Option Int → Hp → Prop, (∀ G2 H2, Gw G H G2 H2 → Q o H2) → to σ H Q
/-- a two-place operation, a call, by data -/
def RD (r : R2) (x y d : PyData) : Prop := ∀ G H v u, Ex G H → Dr G v x → Dr G u y → ∀ Q : VK, (∀ z G2 H2, Gw G H G2 H2 → Dr G2 z d → Q z H2) → r v u H Q
def RCD (r : List V → Hp → VK → Prop) (ds : List PyData) (d : PyData) : Prop := ∀ G H vs, Ex G H → DrA G vs ds → ∀ Q : VK, (∀ z G2 H2, Gw G H G2 H2 → Dr G2 z d → Q z H2) → r vs H Q
/-- what a def promises -/
def spD (R : List PyData → PyData → Prop) : Sp := fun vs H Q _ => ∃ G ds d, Ex G H ∧ DrA G vs ds ∧ R ds d ∧ ∀ v G' H', Gw G H G' H' → Dr G' v d → Q v H'

section
variable {K : PySem.W.Frag} {ρ : DE} {ta tb tc te : TE} {t u : TT} {x y z d : PyData} {r r' : R2}
theorem ed_var {i : Nat} (h : ρ[i]? = some (some d)) : ED (tVar i) ρ d := fun G H σ e R Q q => by
  obtain ⟨v, a, b⟩ := R.get i d h
  exact ⟨v, a, q v G H (Gw.refl e) b⟩
theorem ed_int (i : Int) : ED (tC (.int i)) ρ (.int i) := fun G H σ e R Q q => q _ G H (Gw.refl e) (.int i)
theorem ed_bl (b : Bool) : ED (tC (.bl b)) ρ (.bool b) := fun G H σ e R Q q => q _ G H (Gw.refl e) (.bl b)
theorem ed_str (x : Str) : ED (tC (.str x)) ρ (.str x) := fun G H σ e R Q q => q _ G H (Gw.refl e) (.str x)
theorem ed_non : ED (tC .non) ρ .none := fun G H σ e R Q q => q _ G H (Gw.refl e) .non
theorem ed_is (h : ED te ρ x) (e : x = d) : ED te ρ d := e ▸ h
theorem et_is {a b : Bool} (h : ET t ρ a) (e : a = b) : ET t ρ b := e ▸ h
theorem ed_op (ha : ED ta ρ x) (hb : ED tb ρ y) (hr : RD r x y d) : ED (tOp r ta tb) ρ d := fun G H σ e R Q q =>
  ha G H σ e R _ fun v G1 H1 g1 d1 => hb G1 H1 σ g1.gh (R.mono g1.gg) _ fun w G2 H2 g2 d2 => hr G2 H2 v w g2.gh (d1.mono g2.gg) d2 Q fun z G3 H3 g3 d3 => q z G3 H3 ((g1.trans g2).trans g3) d3
theorem ed_un {r : V → Hp → VK → Prop} (ha : ED ta ρ x) (hr : ∀ G H v, Ex G H → Dr G v x → ∀ Q : VK, (∀ z G2 H2, Gw G H G2 H2 → Dr G2 z d → Q z H2) → r v H Q) : ED (tUn r ta) ρ d := fun G H σ e R Q q =>
  ha G H σ e R _ fun v G1 H1 g1 d1 => hr G1 H1 v g1.gh d1 Q fun z G3 H3 g3 d3 => q z G3 H3 (g1.trans g3) d3
theorem rd_I {g : Int → Int → Int} {i j : Int} : RD (rI0 fun i j => .int (g i j)) (.int i) (.int j) (.int (g i j)) := fun G H v u e a b Q q => by
  cases a; cases b
  exact ⟨i, j, rfl, rfl, q _ G H (Gw.refl e) (.int _)⟩
theorem rd_B {g : Int → Int → Bool} {i j : Int} : RD (rI0 fun i j => .bl (g i j)) (.int i) (.int j) (.bool (g i j)) := fun G H v u e a b Q q => by
  cases a; cases b
  exact ⟨i, j, rfl, rfl, q _ G H (Gw.refl e) (.bl _)⟩
theorem rd_IC {C : Int → Int → Prop} {g : Int → Int → Int} {i j : Int} (h : C i j) : RD (rI C fun i j => .int (g i j)) (.int i) (.int j) (.int (g i j)) := fun G H v u e a b Q q => by
  cases a; cases b
  exact ⟨i, j, rfl, rfl, h, q _ G H (Gw.refl e) (.int _)⟩
theorem rd_eqD (hx : SeqAt.shaped x = true) (hy : SeqAt.shaped y = true) : RD (rEqD K) x y (.bool (PyData.eqv x y)) := fun G H v u e a b Q q =>
  ⟨x, y, a.dp e, b.dp e, hx, hy, q _ G H (Gw.refl e) (.bl _)⟩
theorem rd_neD (hx : SeqAt.shaped x = true) (hy : SeqAt.shaped y = true) : RD (rNeD K) x y (.bool (!PyData.eqv x y)) := fun G H v u e a b Q q =>
  ⟨x, y, a.dp e, b.dp e, hx, hy, q _ G H (Gw.refl e) (.bl _)⟩
theorem DrA.atI {G : Hp} {vs : List V} {ds : List PyData} {i : Int} (h : DrA G vs ds) (e : L2.atI ds i = some d) : ∃ v, L2.atI vs i = some v ∧ Dr G v d := by
  unfold L2.atI at e ⊢
  rw [h.len]
  cases q : ixN ds.length i with
  | none => rw [q] at e; cases e
  | some j =>
    rw [q] at e
    exact h.at e
theorem rd_ixL {ds : List PyData} {i : Int} (h : L2.atI ds i = some d) : RD (rIxL K) (.list ds) (.int i) d := fun G H v u e a b Q q => by
  cases b
  cases a with
  | lst ha hd =>
    obtain ⟨w, hw, dw⟩ := hd.atI h
    exact ⟨_, _, i, w, rfl, rfl, Evl.sq_of (e _ _ ha), hw, q _ G H (Gw.refl e) dw⟩
theorem rd_ixT {ds : List PyData} {i : Int} (h : L2.atI ds i = some d) : RD (rIxT K) (.tuple ds) (.int i) d := fun G H v u e a b Q q => by
  cases b
  cases a with
  | tup ha hd =>
    obtain ⟨w, hw, dw⟩ := hd.atI h
    exact ⟨_, _, i, w, rfl, rfl, Evl.st_of (e _ _ ha), hw, q _ G H (Gw.refl e) dw⟩
theorem sz {n : Nat} (h : n ≤ 100000) : n ≤ sizeLine := Evl.sz_of h
theorem rd_cat {as bs : List PyData} (h : as.length + bs.length ≤ 100000) : RD rCat (.list as) (.list bs) (.list (as ++ bs)) := fun G H v u e a b Q q => by
  cases a with
  | @lst pa xa _ ha hd =>
    cases b with
    | @lst pb xb _ hb he =>
      refine ⟨_, _, _, _, rfl, rfl, e _ _ ha, e _ _ hb, sz (by rw [hd.len, he.len]; exact h), fun p hp => ?_⟩
      have g := Gw.new (o := .lst (xa ++ xb)) e hp
      exact q _ _ _ g (.lst upd_same ((hd.app he).mono g.gg))
theorem ea_nil : EA tNil ρ [] := fun G H σ e R Q q => q _ G H (Gw.refl e) .nil
theorem ea_cons {tr : TA} {ds : List PyData} (h : ED ta ρ x) (k : EA tr ρ ds) : EA (tCons ta tr) ρ (x :: ds) := fun G H σ e R Q q =>
  h G H σ e R _ fun v G1 H1 g1 d1 => k G1 H1 σ g1.gh (R.mono g1.gg) _ fun w G2 H2 g2 d2 => q _ G2 H2 (g1.trans g2) (.cons (d1.mono g2.gg) d2)
theorem ed_lst {tr : TA} {ds : List PyData} (h : EA tr ρ ds) (hl : ds.length ≤ 100000) : ED (tLst tr) ρ (.list ds) := fun G H σ e R Q q =>
  h G H σ e R _ fun vs G1 H1 g1 d1 => ⟨sz (by rw [d1.len]; exact hl), fun p hp => by
    have g := Gw.new (o := .lst vs) g1.gh hp
    exact q _ _ _ (g1.trans g) (.lst upd_same (d1.mono g.gg))⟩
theorem ed_tup {tr : TA} {ds : List PyData} (h : EA tr ρ ds) (hl : ds.length ≤ 100000) : ED (tTup tr) ρ (.tuple ds) := fun G H σ e R Q q =>
  h G H σ e R _ fun vs G1 H1 g1 d1 => ⟨sz (by rw [d1.len]; exact hl), fun p hp => by
    have g := Gw.new (o := .tup vs) g1.gh hp
    exact q _ _ _ (g1.trans g) (.tup upd_same (d1.mono g.gg))⟩
theorem eo_none : EO tNoPart ρ none := fun G H σ e R Q q => q G H (Gw.refl e)
theorem eo_some {i : Int} (h : ED te ρ (.int i)) : EO (tPart te) ρ (some i) := fun G H σ e R Q q =>
  h G H σ e R _ fun v G1 H1 g1 d1 => by
    cases d1
    exact ⟨i, rfl, q G1 H1 g1⟩
def cutD {α : Type} (xs : List α) (lo hi : Option Int) : List α := (xs.drop (HT.sIx xs.length 0 lo)).take (HT.sIx xs.length xs.length hi - HT.sIx xs.length 0 lo)
theorem DrA.cut {G : Hp} {vs : List V} {ds : List PyData} (h : DrA G vs ds) (lo hi : Option Int) : DrA G (cutV vs lo hi) (cutD ds lo hi) := by
  unfold cutV cutD
  rw [h.len]
  exact (h.drop _).take _
theorem ed_sl {tl th : TO} {ds : List PyData} {lo hi : Option Int} (h : ED te ρ (.list ds)) (h1 : EO tl ρ lo) (h2 : EO th ρ hi) : ED (tSl (rSlL K) te tl th) ρ (.list (cutD ds lo hi)) := fun G H σ e R Q q =>
  h G H σ e R _ fun v G1 H1 g1 d1 => h1 G1 H1 σ g1.gh (R.mono g1.gg) _ fun G2 H2 g2 => h2 G2 H2 σ g2.gh (R.mono (g1.trans g2).gg) _ fun G3 H3 g3 => by
    cases d1 with
    | @lst pa xa _ ha hd =>
      refine ⟨_, _, rfl, Evl.sq_of ((g2.trans g3).hh _ _ (g1.gh _ _ ha)), fun p hp => ?_⟩
      have g := Gw.new (o := .lst (cutV xa lo hi)) g3.gh hp
      exact q _ _ _ (((g1.trans g2).trans g3).trans g) (.lst upd_same ((hd.cut lo hi).mono ((g2.trans g3).trans g).gg))
theorem ed_cb {r : List V → Hp → VK → Prop} {tr : TA} {ds : List PyData} (h : EA tr ρ ds) (hr : RCD r ds d) : ED (tCB r tr) ρ d := fun G H σ e R Q q =>
  h G H σ e R _ fun vs G1 H1 g1 d1 => hr G1 H1 vs g1.gh d1 Q fun z G2 H2 g2 d2 => q z G2 H2 (g1.trans g2) d2
theorem ed_call {R' : List PyData → PyData → Prop} {dvs : List V} {dds ds : List PyData} {E : XK} {tr : TA} (h : EA tr ρ ds) (hd : ∀ G, DrA G dvs dds) (hr : R' (ds ++ dds) d) : ED (tCall (spD R') dvs E tr) ρ d := fun G H σ e R Q q =>
  h G H σ e R _ fun vs G1 H1 g1 d1 => ⟨G1, ds ++ dds, d, g1.gh, d1.app (hd G1), hr, fun v G2 H2 g2 d2 => q v G2 H2 (g1.trans g2) d2⟩
theorem ed_call0 {R' : List PyData → PyData → Prop} {ds : List PyData} {E : XK} {tr : TA} (h : EA tr ρ ds) (hr : R' ds d) : ED (tCall (spD R') [] E tr) ρ d := ed_call (dds := []) h (fun _ => .nil) (by rw [List.append_nil]; exact hr)
theorem ed_callK {R' : List PyData → PyData → Prop} {gV : List V → List V → List V} {ds es fs : List PyData} {E : XK} {tr tk : TA} (h : EA tr ρ ds) (k : EA tk ρ es) (hg : ∀ G vs us, DrA G vs ds → DrA G us es → DrA G (gV vs us) fs) (hr : R' fs d) :
    ED (tCallK (spD R') gV E tr tk) ρ d := fun G H σ e R Q q =>
  h G H σ e R _ fun vs G1 H1 g1 d1 => k G1 H1 σ g1.gh (R.mono g1.gg) _ fun us G2 H2 g2 d2 => ⟨G2, fs, d, g2.gh, hg G2 vs us (d1.mono g2.gg) d2, hr, fun v G3 H3 g3 d3 => q v G3 H3 ((g1.trans g2).trans g3) d3⟩
/-! tests -/
theorem et_test {b : Bool} (h : ED te ρ (.bool b)) : ET (tTest te) ρ b := fun G H σ e R Q q => h G H σ e R _ fun v G1 H1 g1 d1 => by
  cases d1
  exact ⟨b, rfl, q G1 H1 g1⟩
theorem et_B {b : Bool} (h : ED te ρ (.bool b)) : ET (tB te) ρ b := fun G H σ e R Q q => h G H σ e R _ fun v G1 H1 g1 d1 => by
  cases d1
  exact ⟨b, rfl, q G1 H1 g1⟩
theorem et_and {a b : Bool} (h1 : ET t ρ a) (h2 : a = true → ET u ρ b) : ET (tAnd t u) ρ (a && b) := fun G H σ e R Q q => h1 G H σ e R _ fun G1 H1 g1 => by
  cases a with
  | true =>
    show u σ H1 Q
    exact h2 rfl G1 H1 σ g1.gh (R.mono g1.gg) Q fun G2 H2 g2 => q G2 H2 (g1.trans g2)
  | false =>
    show Q false H1
    exact q G1 H1 g1
theorem et_or {a b : Bool} (h1 : ET t ρ a) (h2 : a = false → ET u ρ b) : ET (tOr t u) ρ (a || b) := fun G H σ e R Q q => h1 G H σ e R _ fun G1 H1 g1 => by
  cases a with
  | true =>
    show Q true H1
    exact q G1 H1 g1
  | false =>
    show u σ H1 Q
    exact h2 rfl G1 H1 σ g1.gh (R.mono g1.gg) Q fun G2 H2 g2 => q G2 H2 (g1.trans g2)
theorem et_not {a : Bool} (h1 : ET t ρ a) : ET (tNot t) ρ (!a) := fun G H σ e R Q q => h1 G H σ e R _ fun G1 H1 g1 => q G1 H1 g1
theorem et_yes : ET tYes ρ true := fun G H σ e R Q q => q G H (Gw.refl e)
theorem ed_andV {a b : Bool} (h1 : ED ta ρ (.bool a)) (h2 : a = true → ED tb ρ (.bool b)) : ED (tAndV ta tb) ρ (.bool (a && b)) := fun G H σ e R Q q => h1 G H σ e R _ fun v G1 H1 g1 d1 => by
  cases d1
  refine ⟨a, rfl, ?_⟩
  cases a with
  | true =>
    show tb σ H1 Q
    exact h2 rfl G1 H1 σ g1.gh (R.mono g1.gg) Q fun w G2 H2 g2 d2 => q w G2 H2 (g1.trans g2) d2
  | false =>
    show Q (.bl false) H1
    exact q _ G1 H1 g1 (.bl false)
theorem ed_orV {a b : Bool} (h1 : ED ta ρ (.bool a)) (h2 : a = false → ED tb ρ (.bool b)) : ED (tOrV ta tb) ρ (.bool (a || b)) := fun G H σ e R Q q => h1 G H σ e R _ fun v G1 H1 g1 d1 => by
  cases d1
  refine ⟨a, rfl, ?_⟩
  cases a with
  | true =>
    show Q (.bl true) H1
    exact q _ G1 H1 g1 (.bl true)
  | false =>
    show tb σ H1 Q
    exact h2 rfl G1 H1 σ g1.gh (R.mono g1.gg) Q fun w G2 H2 g2 d2 => q w G2 H2 (g1.trans g2) d2
theorem ed_notV {a : Bool} (h1 : ED ta ρ (.bool a)) : ED (tNotV ta) ρ (.bool (!a)) := fun G H σ e R Q q => h1 G H σ e R _ fun v G1 H1 g1 d1 => by
  cases d1
  exact ⟨a, rfl, q _ G1 H1 g1 (.bl _)⟩
theorem ed_if {b : Bool} (h : ET t ρ b) (h1 : b = true → ED ta ρ d) (h2 : b = false → ED tb ρ d) : ED (tIf t ta tb) ρ d := fun G H σ e R Q q => h G H σ e R _ fun G1 H1 g1 => by
  cases b with
  | true =>
    show ta σ H1 Q
    exact h1 rfl G1 H1 σ g1.gh (R.mono g1.gg) Q fun w G2 H2 g2 d2 => q w G2 H2 (g1.trans g2) d2
  | false =>
    show tb σ H1 Q
    exact h2 rfl G1 H1 σ g1.gh (R.mono g1.gg) Q fun w G2 H2 g2 d2 => q w G2 H2 (g1.trans g2) d2
/-- two comparisons in a row, of ints -/
theorem ed_chain {b c : Bool} (ha : ED ta ρ x) (hb : ED tb ρ y) (hr : RD r x y (.bool b)) (hc : b = true → ED tc ρ z) (hr2 : b = true → RD r' y z (.bool c)) : ED (tChain r r' ta tb tc) ρ (.bool (b && c)) := fun G H σ e R Q q =>
  ha G H σ e R _ fun v G1 H1 g1 d1 => hb G1 H1 σ g1.gh (R.mono g1.gg) _ fun w G2 H2 g2 d2 => hr G2 H2 v w g2.gh (d1.mono g2.gg) d2 _ fun k G3 H3 g3 d3 => by
    cases d3
    refine ⟨b, rfl, ?_⟩
    cases b with
    | true =>
      show tc σ H3 fun w' H4 => r' w w' H4 Q
      exact hc rfl G3 H3 σ g3.gh (R.mono ((g1.trans g2).trans g3).gg) _ fun w' G4 H4 g4 d4 => hr2 rfl G4 H4 w w' g4.gh (d2.mono (g3.trans g4).gg) d4 Q fun k G5 H5 g5 d5 => q k G5 H5 ((((g1.trans g2).trans g3).trans g4).trans g5) d5
    | false =>
      show Q (.bl false) H3
      exact q _ G3 H3 ((g1.trans g2).trans g3) (.bl false)
/-! built-ins -/
theorem rc_sum {ns : List Int} : RCD (rSum K) [.list (ns.map PyData.int)] (.int ns.sum) := fun G H vs e h Q q => by
  cases h with
  | cons h1 h2 =>
    cases h2
    cases h1 with
    | lst ha hd =>
      rw [hd.ints] at ha
      exact ⟨_, ns, rfl, Evl.sq_of (e _ _ ha), q _ G H (Gw.refl e) (.int _)⟩
theorem rc_any {bs : List Bool} : RCD (rAny K) [.list (bs.map PyData.bool)] (.bool (bs.any id)) := fun G H vs e h Q q => by
  cases h with
  | cons h1 h2 =>
    cases h2
    cases h1 with
    | lst ha hd =>
      rw [hd.bools] at ha
      exact ⟨_, bs, rfl, Evl.sq_of (e _ _ ha), q _ G H (Gw.refl e) (.bl _)⟩
theorem rc_all {bs : List Bool} : RCD (rAll K) [.list (bs.map PyData.bool)] (.bool (bs.all id)) := fun G H vs e h Q q => by
  cases h with
  | cons h1 h2 =>
    cases h2
    cases h1 with
    | lst ha hd =>
      rw [hd.bools] at ha
      exact ⟨_, bs, rfl, Evl.sq_of (e _ _ ha), q _ G H (Gw.refl e) (.bl _)⟩
theorem rc_len {ds : List PyData} : RCD (Evl.rLenS K) [.list ds] (.int (ds.length : Int)) := fun G H vs e h Q q => by
  cases h with
  | cons h1 h2 =>
    cases h2
    cases h1 with
    | lst ha hd => exact ⟨_, _, rfl, .inl (Evl.sq_of (e _ _ ha)), by rw [hd.len]; exact q _ G H (Gw.refl e) (.int _)⟩
theorem rc_lenT {ds : List PyData} : RCD (Evl.rLenS K) [.tuple ds] (.int (ds.length : Int)) := fun G H vs e h Q q => by
  cases h with
  | cons h1 h2 =>
    cases h2
    cases h1 with
    | tup ha hd => exact ⟨_, _, rfl, .inr (Evl.st_of (e _ _ ha)), by rw [hd.len]; exact q _ G H (Gw.refl e) (.int _)⟩
theorem rc_list {ds : List PyData} : RCD (Evl.rListS K) [.list ds] (.list ds) := fun G H vs e h Q q => by
  cases h with
  | cons h1 h2 =>
    cases h2
    cases h1 with
    | @lst pa xa _ ha hd =>
      refine ⟨_, _, rfl, .inl (Evl.sq_of (e _ _ ha)), fun p hp => ?_⟩
      have g := Gw.new (o := .lst xa) e hp
      exact q _ _ _ g (.lst upd_same (hd.mono g.gg))
end
end DL

/-! DLb: comprehensions, statements, loops, defs, by data. -/
namespace DL
open PySem L2
open Evl (Ex)

section
variable {K : PySem.W.Frag} {ρ : DE} {tl te : TE} {tt : TT} {ta : TA} {d : PyData}
/-- in the midst of a comprehension: p is the new list, not known yet -/
structure Lw (G0 H0 : Hp) (p : Addr) (B : Hp) (ds : List PyData) (H : Hp) : Prop where
  ex : ∃ G xs, Gw G0 H0 G H ∧ Ex B G ∧ H p = some (.lst xs) ∧ G p = none ∧ DrA G xs ds
theorem lw_end {G0 H0 B H : Hp} {p : Addr} {ds : List PyData} (h : Lw G0 H0 p B ds H) (hp : H0 p = none) : ∃ G, Gw G0 H0 G H ∧ Dr G (.ref p) (.list ds) := by
  obtain ⟨G, xs, g, b, hx, gp, hd⟩ := h.ex
  refine ⟨upd G p (.lst xs), ⟨g.gg.trans (Ex.new gp), fun a u q => ?_, g.hh, fun a h1 h2 => ?_⟩, .lst upd_same (hd.mono (Ex.new gp))⟩
  · by_cases z : a = p
    · subst z; rw [upd_same] at q; cases q; exact hx
    · rw [upd_ne z] at q; exact g.gh a u q
  · have z : a ≠ p := fun z => h1 (by rw [z]; exact hp)
    rw [upd_ne z]
    exact g.fz a h1 h2
/-- one turn, behind the target's store -/
theorem lw_turn {G0 H0 B H : Hp} {p : Addr} {ds : List PyData} {σ2 : St} {ρ2 : DE} {b : Bool} (h : Lw G0 H0 p B ds H) (hp : H0 p = none) (hl : ds.length < 50000) (R : EnvR B σ2 ρ2) (ht : ET tt ρ2 b) (he : b = true → ED te ρ2 d) :
    tt σ2 H fun b' H3 => if b' = true then te σ2 H3 fun y H4 => ∃ acc, H4 p = some (.lst acc) ∧ acc.length < sizeLine ∧ Lw G0 H0 p B (if b then ds ++ [d] else ds) (upd H4 p (.lst (acc ++ [y]))) else Lw G0 H0 p B (if b then ds ++ [d] else ds) H3 := by
  obtain ⟨G, xs, g, eb, hx, gp, hd⟩ := h.ex
  have np : H p ≠ none := by rw [hx]; intro z; cases z
  refine ht G H σ2 g.gh (R.mono eb) _ fun G3 H3 g3 => ?_
  cases b with
  | true =>
    show te σ2 H3 fun y H4 => _
    refine he rfl G3 H3 σ2 g3.gh (R.mono (eb.trans g3.gg)) _ fun y G4 H4 g4 d4 => ?_
    have gt := g3.trans g4
    have g4p : G4 p = none := gt.fz p np gp
    refine ⟨xs, gt.hh _ _ hx, Evl.sz_lt (by rw [hd.len]; omega), ⟨G4, xs ++ [y], ⟨g.gg.trans gt.gg, fun a u q => ?_, fun a u q => ?_, fun a h1 h2 => ?_⟩, eb.trans gt.gg, upd_same, g4p, (hd.mono gt.gg).app (.cons d4 .nil)⟩⟩
    · rw [upd_ne (ne_of_none q g4p)]
      exact gt.gh a u q
    · rw [upd_ne (ne_of_none q hp)]
      exact gt.hh a u (g.hh a u q)
    · exact gt.fz a (ne_of_ex g.hh h1) (g.fz a h1 h2)
  | false =>
    show Lw G0 H0 p B ds H3
    have g3p : G3 p = none := g3.fz p np gp
    exact ⟨G3, xs, g.trans g3, eb.trans g3.gg, g3.hh _ _ hx, g3p, hd.mono g3.gg⟩
theorem Lw.sub {G0 H0 B H : Hp} {p : Addr} {ds ds' : List PyData} (h : Lw G0 H0 p B ds H) (e : ds = ds') : Lw G0 H0 p B ds' H := e ▸ h
theorem tk_f {ds : List PyData} {p : PyData → Bool} {f : PyData → PyData} {i : Nat} {x : PyData} (h : ds[i]? = some x) :
    (if p x then (((ds.take i).filter p).map f) ++ [f x] else ((ds.take i).filter p).map f) = ((ds.take (i + 1)).filter p).map f := by
  have e : ds.take (i + 1) = ds.take i ++ [x] := by
    rw [List.take_add_one, h]; rfl
  rw [e, List.filter_append, List.map_append]
  by_cases q : p x = true
  · rw [if_pos q, List.filter_cons, if_pos q]; rfl
  · rw [if_neg q, List.filter_cons, if_neg q, List.filter_nil, List.map_nil, List.append_nil]
theorem lw_start {G H : Hp} {p : Addr} (e : Ex G H) (hp : H p = none) : Lw G H p G [] (upd H p (.lst [])) :=
  ⟨G, [], ⟨Ex.refl G, e.trans (Ex.new hp), Ex.new hp, fun _ _ h => h⟩, Ex.refl G, upd_same, Evl.fresh_back e hp, .nil⟩
/-- [e for x in a list if t], the target any: what it stores is told by S -/
theorem ed_lcG {g : TG} {vs : List Nat} {ds : List PyData} (p : PyData → Bool) (f : PyData → PyData) (S : PyData → DE) (h : ED tl ρ (.list ds)) (hl : ds.length < 50000)
    (hg : ∀ (x : PyData) (B H : Hp) (v : V) (σ : St), x ∈ ds → EnvR B σ (wipeD ρ vs) → Dr B v x → Ex B H → wipe σ vs = σ → ∀ Q : St → Hp → Prop, (∀ σ', EnvR B σ' (S x) → wipe σ' vs = σ → Q σ' H) → g v σ H Q)
    (hw : ∀ σ : St, wipe (wipe σ vs) vs = wipe σ vs)
    (ht : ∀ x, x ∈ ds → ET tt (S x) (p x)) (he : ∀ x, x ∈ ds → p x = true → ED te (S x) (f x)) :
    ED (tLc (iList K tl) g tt te vs) ρ (.list ((ds.filter p).map f)) := fun G H σ e R Q q =>
  h G H σ e R _ fun v G1 H1 g1 d1 => by
    cases d1 with
    | @lst a xs _ ha hd =>
      refine ⟨a, rfl, ⟨xs, Evl.sq_of (g1.gh _ _ ha)⟩, fun D hD => ?_⟩
      refine lc_list (xs := xs) (fun i H' => Lw G1 H1 D G1 (((ds.take i).filter p).map f) H') (lw_start g1.gh hD) (fun i H' _ w => ?_) (fun i x H' hi w => ?_) (fun H' w => ?_)
      · obtain ⟨G2, _, g2, b2, _⟩ := w.ex
        exact Evl.sq_of (g2.gh _ _ (b2 _ _ ha))
      · obtain ⟨dx, hdx, rx⟩ := hd.get hi
        have mx : dx ∈ ds := List.mem_of_getElem? hdx
        obtain ⟨G2, _, g2, b2, _⟩ := w.ex
        refine hg dx G1 H' x (wipe σ vs) mx ((R.mono g1.gg).wiped vs) rx (b2.trans g2.gh) (hw σ) _ fun σ' R' w' => ⟨by rw [w'], ?_⟩
        have t := lw_turn (d := f dx) w hD (by
          have h1 := List.length_filter_le p (ds.take i)
          rw [List.length_map]
          rw [List.length_take] at h1
          omega) R' (ht dx mx) (he dx mx)
        rw [tk_f hdx] at t
        exact t
      · have e1 : ((ds.take xs.length).filter p).map f = (ds.filter p).map f := by rw [hd.len, List.take_length]
        obtain ⟨G2, g2, r2⟩ := lw_end (w.sub e1) hD
        exact q _ _ _ (g1.trans g2) r2
theorem wipe_set {σ : St} {x : Option V} {i : Nat} : ∀ {vs : List Nat}, i ∈ vs → wipe (σ.set i x) vs = wipe σ vs
  | [], h => absurd h (by simp)
  | v :: vs, h => by
    unfold wipe
    by_cases z : v = i
    · subst z
      by_cases m : v ∈ vs
      · rw [wipe_set m]
      · have : ∀ us : List Nat, v ∉ us → (wipe (σ.set v x) us).set v none = (wipe σ us).set v none := by
          intro us
          induction us with
          | nil => intro _; exact List.set_set _ ..
          | cons u us ih =>
            intro hm
            have h1 : v ≠ u := fun e => hm (by rw [e]; exact List.mem_cons_self)
            have h2 : v ∉ us := fun e => hm (List.mem_cons_of_mem _ e)
            unfold wipe
            rw [List.set_comm _ _ h1.symm, ih h2, List.set_comm _ _ h1]
        exact this vs m
    · have m : i ∈ vs := by
        rcases List.mem_cons.mp h with e | e
        · exact absurd e.symm z
        · exact e
      rw [wipe_set m]
theorem wipe_idem : ∀ (vs us : List Nat) (σ : St), (∀ v ∈ us, v ∈ vs) → wipe (wipe σ us) vs = wipe σ vs
  | vs, [], σ, _ => rfl
  | vs, u :: us, σ, h => by
    show wipe ((wipe σ us).set u none) vs = _
    rw [wipe_set (h u List.mem_cons_self)]
    exact wipe_idem vs us σ fun v hv => h v (List.mem_cons_of_mem _ hv)
/-- the target a name -/
theorem ed_lcL {j : Nat} {vs : List Nat} {ds : List PyData} (p : PyData → Bool) (f : PyData → PyData) (h : ED tl ρ (.list ds)) (hj : j ∈ vs) (hl : ds.length < 50000)
    (ht : ∀ x, x ∈ ds → ET tt ((wipeD ρ vs).set j (some x)) (p x)) (he : ∀ x, x ∈ ds → p x = true → ED te ((wipeD ρ vs).set j (some x)) (f x)) :
    ED (tLc (iList K tl) (gName j) tt te vs) ρ (.list ((ds.filter p).map f)) :=
  ed_lcG p f (fun x => (wipeD ρ vs).set j (some x)) h hl (fun x B H v σ _ R dv e w Q q => q _ (R.set j dv) (by rw [wipe_set hj, w])) (fun σ => wipe_idem vs vs σ fun _ h => h) ht he
/-- the target a pair of names -/
theorem ed_lcP {i j : Nat} {vs : List Nat} {ds : List PyData} (p : PyData → Bool) (f : PyData → PyData) (A B : PyData → PyData) (h : ED tl ρ (.list ds)) (hi : i ∈ vs) (hj : j ∈ vs) (hl : ds.length < 50000) (hp : ∀ x, x ∈ ds → x = .tuple [A x, B x])
    (ht : ∀ x, x ∈ ds → ET tt (((wipeD ρ vs).set i (some (A x))).set j (some (B x))) (p x)) (he : ∀ x, x ∈ ds → p x = true → ED te (((wipeD ρ vs).set i (some (A x))).set j (some (B x))) (f x)) :
    ED (tLc (iList K tl) (gTup K 2 (gCons (gName i) (gCons (gName j) gNil))) tt te vs) ρ (.list ((ds.filter p).map f)) :=
  ed_lcG p f (fun x => ((wipeD ρ vs).set i (some (A x))).set j (some (B x))) h hl (fun x G H v σ mx R dv e w Q q => by
    rw [hp x mx] at dv
    cases dv with
    | @tup a xs _ ha hd =>
      cases hd with
      | @cons v1 r1 _ _ h1 hd1 =>
        cases hd1 with
        | @cons v2 r2 _ _ h2 hd2 =>
          cases hd2
          exact ⟨a, _, rfl, Evl.st_of (e _ _ ha), rfl, v1, [v2], rfl, v2, [], rfl, rfl, q _ ((R.set i h1).set j h2) (by rw [wipe_set hj, wipe_set hi, w])⟩) (fun σ => wipe_idem vs vs σ fun _ h => h) ht he
/-- over range(n) -/
theorem tk_r {p : Nat → Bool} {f : Nat → PyData} {i : Nat} :
    (if p i then (((List.range i).filter p).map f) ++ [f i] else ((List.range i).filter p).map f) = ((List.range (i + 1)).filter p).map f := by
  rw [List.range_succ, List.filter_append, List.map_append]
  by_cases q : p i = true
  · rw [if_pos q, List.filter_cons, if_pos q]; rfl
  · rw [if_neg q, List.filter_cons, if_neg q, List.filter_nil, List.map_nil, List.append_nil]
theorem ed_rng {j : Nat} {vs : List Nat} {lo : Int} {n : Nat} {G0 H0 : Hp} {σ : St} (p : Nat → Bool) (f : Nat → PyData) (hj : j ∈ vs) (hl : n < 50000) (R : EnvR G0 σ ρ) (e : Ex G0 H0)
    (ht : ∀ i : Nat, i < n → ET tt ((wipeD ρ vs).set j (some (.int (lo + i)))) (p i)) (he : ∀ i : Nat, i < n → p i = true → ED te ((wipeD ρ vs).set j (some (.int (lo + i)))) (f i)) (D : Addr) (hD : H0 D = none) (Q : Hp → Prop)
    (q : ∀ G2 H2, Gw G0 H0 G2 H2 → Dr G2 (.ref D) (.list (((List.range n).filter p).map f)) → Q H2) :
    ∃ W : Nat → Nat → Hp → Prop, (∃ m, W 0 m (upd H0 D (.lst []))) ∧ ∀ i m H, W i m H →
      ((Itr lo n).stop i H ∧ Q H) ∨ ((Itr lo n).go i H ∧ ∃ Nx : Hp → Prop, (∀ H', Nx H' → ∃ m', m' < m ∧ W (i + 1) m' H') ∧ ∀ x H', (Itr lo n).yld i H x H' → gName j x (wipe σ vs) H' fun σ2 H2 => wipe σ2 vs = wipe σ vs ∧ tt σ2 H2 fun b H3 =>
        if b = true then te σ2 H3 fun y H4 => ∃ acc, H4 D = some (.lst acc) ∧ acc.length < sizeLine ∧ Nx (upd H4 D (.lst (acc ++ [y]))) else Nx H3) := by
  refine lc_range (fun i H' => Lw G0 H0 D G0 (((List.range i).filter p).map f) H') (lw_start e hD) (fun i H' hi w => ?_) (fun H' w => ?_)
  · refine ⟨by rw [wipe_set hj]; exact wipe_idem vs vs σ fun _ h => h, ?_⟩
    have t := lw_turn (d := f i) w hD (by
          have h1 := List.length_filter_le p (List.range i)
          rw [List.length_map]
          rw [List.length_range] at h1
          omega) ((R.wiped vs).set j (.int _)) (ht i hi) (he i hi)
    rw [tk_r] at t
    exact t
  · obtain ⟨G2, g2, r2⟩ := lw_end w hD
    exact q _ _ g2 r2
theorem ed_lcR {j : Nat} {vs : List Nat} {n : Int} (p : Nat → Bool) (f : Nat → PyData) (h : EA ta ρ [.int n]) (hn : n < 50000 ∧ -50000 < n) (hj : j ∈ vs)
    (ht : ∀ i : Nat, i < n.toNat → ET tt ((wipeD ρ vs).set j (some (.int (i : Int)))) (p i)) (he : ∀ i : Nat, i < n.toNat → p i = true → ED te ((wipeD ρ vs).set j (some (.int (i : Int)))) (f i)) :
    ED (tLc (iRng1 ta) (gName j) tt te vs) ρ (.list (((List.range n.toNat).filter p).map f)) := fun G H σ e R Q q =>
  h G H σ e R _ fun us G1 H1 g1 d1 => by
    have e1 := DrA.ints (ns := [n]) d1
    refine ⟨n, e1, by omega, by omega, fun D hD => ?_⟩
    refine ed_rng (lo := 0) p f hj (by omega) (R.mono g1.gg) g1.gh (fun i hi => ?_) (fun i hi hp => ?_) D hD _ fun G2 H2 g2 r2 => q _ G2 H2 (g1.trans g2) r2
    · rw [Int.zero_add]; exact ht i hi
    · rw [Int.zero_add]; exact he i hi hp
theorem ed_lcR2 {j : Nat} {vs : List Nat} {lo n : Int} (p : Nat → Bool) (f : Nat → PyData) (h : EA ta ρ [.int lo, .int n]) (hn : n < 50000 ∧ -50000 < n ∧ lo < 50000 ∧ 0 ≤ lo) (hj : j ∈ vs)
    (ht : ∀ i : Nat, i < (n - lo).toNat → ET tt ((wipeD ρ vs).set j (some (.int (lo + (i : Int))))) (p i)) (he : ∀ i : Nat, i < (n - lo).toNat → p i = true → ED te ((wipeD ρ vs).set j (some (.int (lo + (i : Int))))) (f i)) :
    ED (tLc (iRng2 ta) (gName j) tt te vs) ρ (.list (((List.range (n - lo).toNat).filter p).map f)) := fun G H σ e R Q q =>
  h G H σ e R _ fun us G1 H1 g1 d1 => by
    have e1 := DrA.ints (ns := [lo, n]) d1
    refine ⟨lo, n, e1, ⟨by omega, by omega, by omega, by omega⟩, fun D hD => ?_⟩
    exact ed_rng (lo := lo) p f hj (by omega) (R.mono g1.gg) g1.gh (fun i hi => ht i hi) (fun i hi hp => he i hi hp) D hD _ fun G2 H2 g2 r2 => q _ G2 H2 (g1.trans g2) r2
end

/-! ### statements: a state of data, at most one list that is still being filled -/
abbrev Own := Option (Nat × List PyData)
def OwnR (G H0 H : Hp) (σ : St) : Own → Prop
  | none => True
  | some (j, ds) => ∃ p xs, σ[j]? = some (some (.ref p)) ∧ H p = some (.lst xs) ∧ G p = none ∧ H0 p = none ∧ DrA G xs ds
/-- G0, H0: at the def's start; B: what is known to stay -/
structure SR (G0 H0 B : Hp) (ρ : DE) (o : Own) (σ : St) (H : Hp) : Prop where
  ex : ∃ G, Gw G0 H0 G H ∧ Ex B G ∧ EnvR G σ ρ ∧ OwnR G H0 H σ o
def SX (t : TS) (ρ : DE) (o : Own) (nx : DE → Own → Prop) (rt : PyData → Prop) : Prop := ∀ (G0 H0 B : Hp) (D : Ends),
  (∀ ρ' o' σ' H', nx ρ' o' → SR G0 H0 B ρ' o' σ' H' → D.nx σ' H') → (∀ d v G' H', rt d → Gw G0 H0 G' H' → Dr G' v d → D.rt v H') → ∀ σ H, SR G0 H0 B ρ o σ H → t D σ H
/-- the slot j is not the one that holds the list being filled -/
def Off (j : Nat) : Own → Prop
  | none => True
  | some (i, _) => i ≠ j
section
variable {K : PySem.W.Frag} {ρ : DE} {o : Own} {nx : DE → Own → Prop} {rt : PyData → Prop} {te ta tl : TE} {t u : TS} {c : TT} {d : PyData} {G0 H0 B G H G2 H2 : Hp} {σ : St}
theorem OwnR.grow (h : OwnR G H0 H σ o) (g : Gw G H G2 H2) : OwnR G2 H0 H2 σ o := by
  cases o with
  | none => exact trivial
  | some x =>
    obtain ⟨j, ds⟩ := x
    obtain ⟨p, xs, a, b, c, d, e⟩ := h
    exact ⟨p, xs, a, g.hh _ _ b, g.fz p (by rw [b]; intro z; cases z) c, d, e.mono g.gg⟩
theorem OwnR.set (h : OwnR G H0 H σ o) {j : Nat} {x : Option V} (f : Off j o) : OwnR G H0 H (σ.set j x) o := by
  cases o with
  | none => exact trivial
  | some y =>
    obtain ⟨i, ds⟩ := y
    obtain ⟨p, xs, a, b⟩ := h
    exact ⟨p, xs, by rw [List.getElem?_set_ne (Ne.symm f)]; exact a, b⟩
theorem sx_seq {M : DE → Own → Prop} (h : SX t ρ o M rt) (k : ∀ ρ' o', M ρ' o' → SX u ρ' o' nx rt) : SX (tSeq t u) ρ o nx rt := fun G0 H0 B D hn hr σ H s =>
  h G0 H0 B { D with nx := u D } (fun ρ' o' σ' H' m s' => k ρ' o' m G0 H0 B D hn hr σ' H' s') hr σ H s
theorem sx_next (h : nx ρ o) : SX tNext ρ o nx rt := fun G0 H0 B D hn hr σ H s => hn ρ o σ H h s
theorem sx_never {nx rt} (h : False) : SX tNever ρ o nx rt := h.elim
/-- the expression of a statement -/
theorem sx_e {Q : VK} (h : ED te ρ d) (s : SR G0 H0 B ρ o σ H) (q : ∀ v G2 H2, Gw G0 H0 G2 H2 → Ex B G2 → EnvR G2 σ ρ → OwnR G2 H0 H2 σ o → Dr G2 v d → Q v H2) : te σ H Q := by
  obtain ⟨G, g, b, R, w⟩ := s.ex
  exact h G H σ g.gh R Q fun v G2 H2 g2 d2 => q v G2 H2 (g.trans g2) (b.trans g2.gg) (R.mono g2.gg) (w.grow g2) d2
theorem sx_asg {i : Nat} (h : ED te ρ d) (f : Off i o) (k : nx (ρ.set i (some d)) o) : SX (tAsg te (gName i)) ρ o nx rt := fun G0 H0 B D hn hr σ H s =>
  sx_e h s fun v G2 H2 g b R w r => hn _ _ _ _ k ⟨G2, g, b, R.set i r, w.set f⟩
/-- x, y = e, e' -/
theorem sx_par {i j : Nat} {tp : TA} {x y : PyData} (h : EA tp ρ [x, y]) (f1 : Off i o) (f2 : Off j o) (k : nx ((ρ.set i (some x)).set j (some y)) o) : SX (tPar i j tp) ρ o nx rt := fun G0 H0 B D hn hr σ H s => by
  obtain ⟨G, g, b, R, w⟩ := s.ex
  refine h G H σ g.gh R _ fun vs G2 H2 g2 d2 => ?_
  cases d2 with
  | cons r1 d3 =>
    cases d3 with
    | cons r2 d4 =>
      cases d4
      exact ⟨_, _, rfl, hn _ _ _ _ k ⟨G2, g.trans g2, b.trans g2.gg, ((R.mono g2.gg).set i r1).set j r2, ((w.grow g2).set f1).set f2⟩⟩
/-- x, y = a tuple -/
theorem sx_unpack {i j : Nat} {x y : PyData} (h : ED te ρ (.tuple [x, y])) (f1 : Off i o) (f2 : Off j o) (k : nx ((ρ.set i (some x)).set j (some y)) o) : SX (tAsg te (gTup K 2 (gCons (gName i) (gCons (gName j) gNil)))) ρ o nx rt := fun G0 H0 B D hn hr σ H s =>
  sx_e h s fun v G2 H2 g b R w r => by
    cases r with
    | @tup a xs _ ha hd =>
      cases hd with
      | @cons v1 r1 _ _ h1 hd1 =>
        cases hd1 with
        | @cons v2 r2 _ _ h2 hd2 =>
          cases hd2
          exact ⟨a, _, rfl, Evl.st_of (g.gh _ _ ha), rfl, v1, [v2], rfl, v2, [], rfl, rfl, hn _ _ _ _ k ⟨G2, g, b, (R.set i h1).set j h2, (w.set f1).set f2⟩⟩
/-- x = [], to be filled -/
theorem sx_new {i : Nat} (hi : i < ρ.length) (k : nx (ρ.set i none) (some (i, []))) : SX (tAsg (tLst tNil) (gName i)) ρ none nx rt := fun G0 H0 B D hn hr σ H s => by
  obtain ⟨G, g, b, R, w⟩ := s.ex
  refine ⟨Nat.zero_le _, fun p hp => hn _ _ _ _ k ⟨G, ⟨g.gg, g.gh.trans (Ex.new hp), g.hh.trans (Ex.new hp), g.fz⟩, b, R.setN i _, p, [], ?_, upd_same, Evl.fresh_back g.gh hp, Evl.fresh_back g.hh hp, .nil⟩⟩
  exact List.getElem?_set_self (by rw [R.len]; exact hi)
theorem sx_ret (h : ED te ρ d) (k : rt d) : SX (tRet te) ρ o nx rt := fun G0 H0 B D hn hr σ H s =>
  sx_e h s fun v G2 H2 g b R w r => hr d v G2 H2 k g r
/-- the filled list is known from here on -/
theorem sx_freeze {j : Nat} {ds : List PyData} (h : SX t (ρ.set j (some (.list ds))) none nx rt) : SX t ρ (some (j, ds)) nx rt := fun G0 H0 B D hn hr σ H s => by
  obtain ⟨G, g, b, R, p, xs, a1, a2, a3, a4, a5⟩ := s.ex
  have e : σ.set j (some (.ref p)) = σ := by
    obtain ⟨hj, e⟩ := List.getElem?_eq_some_iff.mp a1
    rw [← e]; exact List.set_getElem_self hj
  have R2 : EnvR (upd G p (.lst xs)) (σ.set j (some (.ref p))) (ρ.set j (some (.list ds))) := (R.mono (Ex.new a3)).set j (.lst upd_same (a5.mono (Ex.new a3)))
  rw [e] at R2
  refine h G0 H0 B D hn hr σ H ⟨upd G p (.lst xs), ⟨g.gg.trans (Ex.new a3), fun a u q => ?_, g.hh, fun a h1 h2 => ?_⟩, b.trans (Ex.new a3), R2, trivial⟩
  · by_cases z : a = p
    · subst z; rw [upd_same] at q; cases q; exact a2
    · rw [upd_ne z] at q; exact g.gh a u q
  · have z : a ≠ p := fun z => h1 (by rw [z]; exact a4)
    rw [upd_ne z]
    exact g.fz a h1 h2
theorem sx_if {b : Bool} (h : ET c ρ b) (h1 : b = true → SX t ρ o nx rt) (h2 : b = false → SX u ρ o nx rt) : SX (tIfS c t u) ρ o nx rt := fun G0 H0 B D hn hr σ H s => by
  obtain ⟨G, g, eb, R, w⟩ := s.ex
  refine h G H σ g.gh R _ fun G2 H2 g2 => ?_
  have s2 : SR G0 H0 B ρ o σ H2 := ⟨G2, g.trans g2, eb.trans g2.gg, R.mono g2.gg, w.grow g2⟩
  cases b with
  | true => exact h1 rfl G0 H0 B D hn hr σ H2 s2
  | false => exact h2 rfl G0 H0 B D hn hr σ H2 s2
/-- e, as a statement -/
theorem sx_drop (h : ED te ρ d) (k : nx ρ o) : SX (tDrop te) ρ o nx rt := fun G0 H0 B D hn hr σ H s =>
  sx_e h s fun v G2 H2 g b R w r => hn _ _ _ _ k ⟨G2, g, b, R, w⟩
theorem own_put {j : Nat} {ds es : List PyData} {p : Addr} {xs ys : List V} (g : Gw G0 H0 G H) (b : Ex B G) (R : EnvR G σ ρ) (a1 : σ[j]? = some (some (.ref p))) (a3 : G p = none) (a4 : H0 p = none) (k : DrA G (xs ++ ys) (ds ++ es)) :
    SR G0 H0 B ρ (some (j, ds ++ es)) σ (upd H p (.lst (xs ++ ys))) := by
  refine ⟨G, ⟨g.gg, fun a u q => ?_, fun a u q => ?_, g.fz⟩, b, R, p, _, a1, upd_same, a3, a4, k⟩
  · rw [upd_ne (ne_of_none q a3)]; exact g.gh a u q
  · rw [upd_ne (ne_of_none q a4)]; exact g.hh a u q
/-- x.append(e), x.extend(e) of the list that is being filled -/
theorem sx_append {j : Nat} {ds : List PyData} (h : ED te ρ d) (hl : ds.length < 50000) (k : nx ρ (some (j, ds ++ [d]))) : SX (tDrop (tBM K "list" rAppend (tVar j) (tCons te tNil))) ρ (some (j, ds)) nx rt := fun G0 H0 B D hn hr σ H s => by
  obtain ⟨G, g, b, R, p, xs, a1, a2, a3, a4, a5⟩ := s.ex
  refine ⟨_, a1, .inl ⟨rfl, xs, Evl.sq_of a2⟩, ?_⟩
  refine h G H σ g.gh R _ fun v G2 H2 g2 r => ?_
  refine ⟨p, xs, v, rfl, rfl, g2.hh _ _ a2, Evl.sz_lt (by rw [a5.len]; omega), hn _ _ _ _ k ?_⟩
  exact own_put (g.trans g2) (b.trans g2.gg) (R.mono g2.gg) a1 (g2.fz p (by rw [a2]; intro z; cases z) a3) a4 ((a5.mono g2.gg).app (.cons r .nil))
theorem sx_extend {j : Nat} {ds es : List PyData} (h : ED te ρ (.list es)) (hl : ds.length + es.length < 50000) (k : nx ρ (some (j, ds ++ es))) : SX (tDrop (tBM K "list" rExtend (tVar j) (tCons te tNil))) ρ (some (j, ds)) nx rt := fun G0 H0 B D hn hr σ H s => by
  obtain ⟨G, g, b, R, p, xs, a1, a2, a3, a4, a5⟩ := s.ex
  refine ⟨_, a1, .inl ⟨rfl, xs, Evl.sq_of a2⟩, ?_⟩
  refine h G H σ g.gh R _ fun v G2 H2 g2 r => ?_
  cases r with
  | @lst q ys _ hq hd =>
    refine ⟨p, q, xs, ys, rfl, rfl, g2.hh _ _ a2, g2.gh _ _ hq, sz (by rw [a5.len, hd.len]; omega), hn _ _ _ _ k ?_⟩
    exact own_put (g.trans g2) (b.trans g2.gg) (R.mono g2.gg) a1 (g2.fz p (by rw [a2]; intro z; cases z) a3) a4 ((a5.mono g2.gg).app hd)
/-! ### loops: P by the turn, the data, the filled list -/
theorem sx_forG {g : TG} {ds : List PyData} {t : TS} (P : Nat → DE → Own → Prop) (S : PyData → DE → DE) (h : ED tl ρ (.list ds)) (h0 : P 0 ρ o)
    (hg : ∀ (x : PyData) (i : Nat) (ρ' : DE) (o' : Own) (G H H0 : Hp) (v : V) (σ : St), x ∈ ds → P i ρ' o' → EnvR G σ ρ' → OwnR G H0 H σ o' → Dr G v x → Ex G H → ∀ Q : St → Hp → Prop, (∀ σ', EnvR G σ' (S x ρ') → OwnR G H0 H σ' o' → Q σ' H) → g v σ H Q)
    (hs : ∀ (i : Nat) x ρ' o', ds[i]? = some x → P i ρ' o' → SX t (S x ρ') o' (P (i + 1)) rt) (hd : ∀ ρ' o', P ds.length ρ' o' → nx ρ' o') : SX (tFor (iList K tl) g t) ρ o nx rt := fun G0 H0 B D hn hr σ H s =>
  sx_e h s fun v G2 H2 g2 b R w r => by
    cases r with
    | @lst a xs _ ha hds =>
      refine ⟨a, rfl, ⟨xs, Evl.sq_of (g2.gh _ _ ha)⟩, ?_⟩
      refine for_list (xs := xs) (fun i σ' H' => ∃ ρ' o', P i ρ' o' ∧ SR G0 H0 G2 ρ' o' σ' H') ⟨ρ, o, h0, G2, g2, Ex.refl G2, R, w⟩ (fun i σ' H' _ w => ?_) (fun i x σ' H' hi w => ?_) (fun σ' H' w => ?_)
      · obtain ⟨ρ', o', _, G3, g3, b3, _⟩ := w
        exact Evl.sq_of (g3.gh _ _ (b3 _ _ ha))
      · obtain ⟨ρ', o', p, G3, g3, b3, R3, w3⟩ := w
        obtain ⟨dx, hdx, rx⟩ := hds.get hi
        refine hg dx i ρ' o' G3 H' H0 x σ' (List.mem_of_getElem? hdx) p R3 w3 (rx.mono b3) g3.gh _ fun σ4 R4 w4 => ?_
        exact hs i dx ρ' o' hdx p G0 H0 G2 { D with nx := fun σ' H' => ∃ ρ' o', P (i + 1) ρ' o' ∧ SR G0 H0 G2 ρ' o' σ' H', ct := fun σ' H' => ∃ ρ' o', P (i + 1) ρ' o' ∧ SR G0 H0 G2 ρ' o' σ' H', bk := D.nx } (fun ρ5 o5 σ5 H5 p5 s5 => ⟨ρ5, o5, p5, s5⟩) hr σ4 H' ⟨G3, g3, b3, R4, w4⟩
      · obtain ⟨ρ', o', p, G3, g3, b3, R3, w3⟩ := w
        rw [hds.len] at p
        exact hn _ _ _ _ (hd ρ' o' p) ⟨G3, g3, b.trans b3, R3, w3⟩
theorem sx_forL {j : Nat} {ds : List PyData} {t : TS} (P : Nat → DE → Own → Prop) (h : ED tl ρ (.list ds)) (h0 : P 0 ρ o) (hf : ∀ i ρ' o', P i ρ' o' → Off j o')
    (hs : ∀ (i : Nat) x ρ' o', ds[i]? = some x → P i ρ' o' → SX t (ρ'.set j (some x)) o' (P (i + 1)) rt) (hd : ∀ ρ' o', P ds.length ρ' o' → nx ρ' o') : SX (tFor (iList K tl) (gName j) t) ρ o nx rt :=
  sx_forG P (fun x ρ' => ρ'.set j (some x)) h h0 (fun x i ρ' o' G H H0 v σ _ p R w r e Q q => q _ (R.set j r) (w.set (hf i ρ' o' p))) hs hd
theorem sx_rng {j n : Nat} {lo : Int} {t : TS} {D : Ends} (P : Nat → DE → Own → Prop) (h0 : P 0 ρ o) (hf : ∀ i ρ' o', P i ρ' o' → Off j o') (hs : ∀ (i : Nat) ρ' o', i < n → P i ρ' o' → SX t (ρ'.set j (some (.int (lo + i)))) o' (P (i + 1)) rt)
    (hd : ∀ ρ' o', P n ρ' o' → nx ρ' o') (hn : ∀ ρ' o' σ' H', nx ρ' o' → SR G0 H0 B ρ' o' σ' H' → D.nx σ' H') (hr : ∀ d v G' H', rt d → Gw G0 H0 G' H' → Dr G' v d → D.rt v H') (s : SR G0 H0 B ρ o σ H) :
    ∃ W : Nat → Nat → St → Hp → Prop, (∃ m, W 0 m σ H) ∧ ∀ i m σ H, W i m σ H →
      ((Itr lo n).stop i H ∧ D.nx σ H) ∨ ((Itr lo n).go i H ∧ ∃ N : St → Hp → Prop, (∀ σ' H', N σ' H' → ∃ m', m' < m ∧ W (i + 1) m' σ' H') ∧ ∀ x H', (Itr lo n).yld i H x H' → gName j x σ H' fun σ2 H2 => t { D with nx := N, ct := N, bk := D.nx } σ2 H2) := by
  refine for_range (fun i σ' H' => ∃ ρ' o', P i ρ' o' ∧ SR G0 H0 B ρ' o' σ' H') ⟨ρ, o, h0, s⟩ (fun i σ' H' hi w => ?_) (fun σ' H' w => ?_)
  · obtain ⟨ρ', o', p, G3, g3, b3, R3, w3⟩ := w
    exact hs i ρ' o' hi p G0 H0 B { D with nx := fun σ' H' => ∃ ρ' o', P (i + 1) ρ' o' ∧ SR G0 H0 B ρ' o' σ' H', ct := fun σ' H' => ∃ ρ' o', P (i + 1) ρ' o' ∧ SR G0 H0 B ρ' o' σ' H', bk := D.nx } (fun ρ5 o5 σ5 H5 p5 s5 => ⟨ρ5, o5, p5, s5⟩) hr _ H' ⟨G3, g3, b3, R3.set j (.int _), w3.set (hf i ρ' o' p)⟩
  · obtain ⟨ρ', o', p, s'⟩ := w
    exact hn _ _ _ _ (hd ρ' o' p) s'
theorem sx_forR {j : Nat} {n : Int} {tr : TA} {t : TS} (P : Nat → DE → Own → Prop) (h : EA tr ρ [.int n]) (hn : n < 50000 ∧ -50000 < n) (h0 : P 0 ρ o) (hf : ∀ i ρ' o', P i ρ' o' → Off j o')
    (hs : ∀ (i : Nat) ρ' o', i < n.toNat → P i ρ' o' → SX t (ρ'.set j (some (.int (i : Int)))) o' (P (i + 1)) rt) (hd : ∀ ρ' o', P n.toNat ρ' o' → nx ρ' o') : SX (tFor (iRng1 tr) (gName j) t) ρ o nx rt := fun G0 H0 B D hx hr σ H s => by
  obtain ⟨G, g, b, R, w⟩ := s.ex
  refine h G H σ g.gh R _ fun us G1 H1 g1 d1 => ?_
  have e1 := DrA.ints (ns := [n]) d1
  refine ⟨n, e1, by omega, by omega, sx_rng (lo := 0) P h0 hf (fun i ρ' o' hi p => ?_) hd hx hr ⟨G1, g.trans g1, b.trans g1.gg, R.mono g1.gg, w.grow g1⟩⟩
  rw [Int.zero_add]
  exact hs i ρ' o' hi p
theorem sx_forR2 {j : Nat} {lo n : Int} {tr : TA} {t : TS} (P : Nat → DE → Own → Prop) (h : EA tr ρ [.int lo, .int n]) (hn : n < 50000 ∧ -50000 < n ∧ lo < 50000 ∧ -50000 < lo) (h0 : P 0 ρ o) (hf : ∀ i ρ' o', P i ρ' o' → Off j o')
    (hs : ∀ (i : Nat) ρ' o', i < (n - lo).toNat → P i ρ' o' → SX t (ρ'.set j (some (.int (lo + (i : Int))))) o' (P (i + 1)) rt) (hd : ∀ ρ' o', P (n - lo).toNat ρ' o' → nx ρ' o') : SX (tFor (iRng2 tr) (gName j) t) ρ o nx rt := fun G0 H0 B D hx hr σ H s => by
  obtain ⟨G, g, b, R, w⟩ := s.ex
  refine h G H σ g.gh R _ fun us G1 H1 g1 d1 => ?_
  have e1 := DrA.ints (ns := [lo, n]) d1
  exact ⟨lo, n, e1, ⟨by omega, by omega, by omega, by omega⟩, sx_rng (lo := lo) P h0 hf hs hd hx hr ⟨G1, g.trans g1, b.trans g1.gg, R.mono g1.gg, w.grow g1⟩⟩
end

theorem SX.mono {t : TS} {ρ : DE} {o : Own} {nx nx' : DE → Own → Prop} {rt rt' : PyData → Prop} (h : SX t ρ o nx rt) (a : ∀ ρ o, nx ρ o → nx' ρ o) (b : ∀ d, rt d → rt' d) : SX t ρ o nx' rt' := fun G0 H0 B D hn hr σ H s =>
  h G0 H0 B D (fun ρ' o' σ' H' z s' => hn ρ' o' σ' H' (a _ _ z) s') (fun d v G' H' z => hr d v G' H' (b _ z)) σ H s

/-! ### defs -/
def rho (N : List Str) (ds : List PyData) : DE := ds.map some ++ List.replicate (N.length - ds.length) none
theorem start_env {G : Hp} {N : List Str} {vs : List V} {ds : List PyData} (h : DrA G vs ds) : EnvR G (L2.start N vs) (rho N ds) := by
  have hl := h.len
  refine ⟨by unfold L2.start rho; simp [hl], fun i d q => ?_⟩
  unfold rho at q
  by_cases hi : i < ds.length
  · rw [List.getElem?_append_left (by simpa using hi), List.getElem?_map] at q
    cases e : ds[i]? with
    | none => rw [e] at q; cases q
    | some d' =>
      rw [e] at q
      cases q
      obtain ⟨v, a, b⟩ := h.at e
      refine ⟨v, ?_, b⟩
      unfold L2.start
      rw [List.getElem?_append_left (by simpa [hl] using hi), List.getElem?_map, a]
      rfl
  · rw [List.getElem?_append_right (by simpa using hi)] at q
    have := List.mem_of_getElem? q
    rw [List.mem_replicate] at this
    exact absurd this.2 (by simp)
/-- how the body answers the promise -/
theorem sx_def {R : List PyData → PyData → Prop} {t : TS} {N : List Str} {vs : List V} {H : Hp} {Q : VK} {E : XK} (h : spD R vs H Q E) (k : ∀ ds d, R ds d → SX t (rho N ds) none (fun _ _ => d = .none) (fun d' => d' = d)) :
    t { nx := fun _ H' => Q .non H', rt := Q } (L2.start N vs) H := by
  obtain ⟨G, ds, d, e, hd, hr, q⟩ := h
  refine k ds d hr G H G { nx := fun _ H' => Q .non H', rt := Q } (fun ρ' o' σ' H' hz s => ?_) (fun d' v G' H' hz g r => ?_) _ _ ⟨G, Gw.refl e, Ex.refl G, start_env hd, trivial⟩
  · obtain ⟨G', g, _⟩ := s.ex
    exact q .non G' H' g (by rw [hz]; exact .non)
  · exact q v G' H' g (by rw [← hz]; exact r)
/-- a def that may be called by its name -/
structure Cal (P : Program) (w : World) (K : PySem.W.Frag) (mg : Str → Option Value) (base : Heap) (k : Nat) (x : Str) (ps : List Str) (sp : Sp) : Prop where
  ex : ∃ f fd, FnOk P w K mg base CX0 k f fd ps sp ∧ mg x = some (.ref f) ∧ PySem.W.keepIn K (.ref f) = true ∧ Binds K fd ps []
theorem spD_len {R : List PyData → PyData → Prop} {n : Nat} (hl : ∀ ds d, R ds d → ds.length = n) (vs : List V) (H : Hp) (Q : VK) (E : XK) (h : spD R vs H Q E) : vs.length = n := by
  obtain ⟨G, ds, d, e, hd, hr, q⟩ := h
  rw [hd.len]
  exact hl ds d hr
/-! ### a statement, then the rest -/
section
variable {K : PySem.W.Frag} {ρ ρ1 : DE} {o o1 : Own} {nx : DE → Own → Prop} {rt : PyData → Prop} {te ta tl : TE} {t u : TS} {c : TT} {d : PyData}
theorem q_of (h : SX t ρ o (fun ρ' o' => ρ' = ρ1 ∧ o' = o1) rt) (k : SX u ρ1 o1 nx rt) : SX (tSeq t u) ρ o nx rt := sx_seq h fun _ _ ⟨e1, e2⟩ => by subst e1 e2; exact k
theorem q_asg {i : Nat} (h : ED te ρ d) (f : Off i o) (k : SX u (ρ.set i (some d)) o nx rt) : SX (tSeq (tAsg te (gName i)) u) ρ o nx rt := q_of (sx_asg h f ⟨rfl, rfl⟩) k
theorem q_par {i j : Nat} {tp : TA} {x y : PyData} (h : EA tp ρ [x, y]) (f1 : Off i o) (f2 : Off j o) (k : SX u ((ρ.set i (some x)).set j (some y)) o nx rt) : SX (tSeq (tPar i j tp) u) ρ o nx rt := q_of (sx_par h f1 f2 ⟨rfl, rfl⟩) k
theorem q_unpack {i j : Nat} {x y : PyData} (h : ED te ρ (.tuple [x, y])) (f1 : Off i o) (f2 : Off j o) (k : SX u ((ρ.set i (some x)).set j (some y)) o nx rt) : SX (tSeq (tAsg te (gTup K 2 (gCons (gName i) (gCons (gName j) gNil)))) u) ρ o nx rt := q_of (sx_unpack h f1 f2 ⟨rfl, rfl⟩) k
theorem q_new {i : Nat} (hi : i < ρ.length) (k : SX u (ρ.set i none) (some (i, [])) nx rt) : SX (tSeq (tAsg (tLst tNil) (gName i)) u) ρ none nx rt := q_of (sx_new hi ⟨rfl, rfl⟩) k
theorem q_drop (h : ED te ρ d) (k : SX u ρ o nx rt) : SX (tSeq (tDrop te) u) ρ o nx rt := q_of (sx_drop h ⟨rfl, rfl⟩) k
/-- if c: (returns); the rest -/
theorem q_ifRet {b : Bool} (h : ET c ρ b) (h1 : b = true → SX t ρ o (fun _ _ => False) rt) (h2 : b = false → SX u ρ o nx rt) : SX (tSeq (tIfS c t tNext) u) ρ o nx rt :=
  sx_seq (M := fun ρ' o' => b = false ∧ ρ' = ρ ∧ o' = o) (sx_if h (fun e => SX.mono (h1 e) (fun _ _ z => z.elim) fun _ z => z) (fun e => sx_next ⟨e, rfl, rfl⟩)) fun _ _ ⟨e, e1, e2⟩ => by subst e1 e2; exact h2 e
/-- if c: a raise that is never reached; the rest -/
theorem q_ifNo (h : ET c ρ false) (k : SX u ρ o nx rt) : SX (tSeq (tIfS c t tNext) u) ρ o nx rt := q_ifRet h (fun e => nomatch e) fun _ => k
theorem sx_ifNo (h : ET c ρ false) (k : nx ρ o) : SX (tIfS c t tNext) ρ o nx rt := sx_if h (fun e => nomatch e) fun _ => sx_next k
theorem sx_retN (k : rt .none) : SX tRetN ρ o nx rt := fun G0 H0 B D hn hr σ H s => by
  obtain ⟨G, g, _⟩ := s.ex
  exact hr .none .non G H k g .non
end
/-! ### the rules with the written part named (a block's own context shows none of its letters) -/
section
variable {X : Cx}
theorem ixLK (K : PySem.W.Frag) (h : X.K = K := by rfl) : IxR X (rIxL K) := h ▸ ix_list
theorem ixTK (K : PySem.W.Frag) (h : X.K = K := by rfl) : IxR X (rIxT K) := h ▸ ix_tup
theorem slK (K : PySem.W.Frag) (h : X.K = K := by rfl) : SlR X (rSlL K) := h ▸ sl_list
theorem lenK (K : PySem.W.Frag) (h : X.K = K := by rfl) : CallR X (.builtin "len") (Evl.rLenS K) := h ▸ call_len_seq
theorem listK (K : PySem.W.Frag) (h : X.K = K := by rfl) : CallR X (.type "list") (Evl.rListS K) := h ▸ call_list_of
theorem eqK (K : PySem.W.Frag) (hu : X.A.units + 64 < cLine) (h : X.K = K := by rfl) : OpR X (compareOp .Eq) (rEqD K) := h ▸ op_eqD hu
theorem neK (K : PySem.W.Frag) (hu : X.A.units + 64 < cLine) (h : X.K = K := by rfl) : OpR X (compareOp .NotEq) (rNeD K) := h ▸ op_neD hu
theorem sumK (K : PySem.W.Frag) (hc : X.calm = true) (h : X.K = K := by rfl) : CallR X (.builtin "sum") (rSum K) := h ▸ cr_sum hc
theorem anyK (K : PySem.W.Frag) (hc : X.calm = true) (h : X.K = K := by rfl) : CallR X (.builtin "any") (rAny K) := h ▸ cr_any hc
theorem allK (K : PySem.W.Frag) (hc : X.calm = true) (h : X.K = K := by rfl) : CallR X (.builtin "all") (rAll K) := h ▸ cr_all hc
theorem piK {tg l : Expr} {tl : TE} (K : PySem.W.Frag) (hl : PE X l tl) (h : X.K = K := by rfl) : PI X tg l (iList K tl) := h ▸ pi_list hl
theorem pgK {es : List Expr} {pos : Pos} {k : Nat} {t : TGs} {n : Nat} (K : PySem.W.Frag) (hc : X.calm = true) (h : PGs X es t) (hk : X.K = K := by rfl)
    (hn : (assignEach es X.env).length = n := by rfl) (hst : (assignEach es X.env).findIdx? (·.1) = none := by rfl) : PG X (.Tuple es k pos) (gTup K n t) := hk ▸ pg_tup hc h hn hst
theorem revK {e : Expr} {te : TE} {k : Nat} {p1 p2 p3 pos : Pos} (K : PySem.W.Frag) (he : PE X e te) (h : X.K = K := by rfl) : PE X (.Subscript e (.Slice none none (some (.UnaryOp .USub (.Constant (.int 1) k p1) p2)) p3) pos) (tRevL K te) := h ▸ pe_revL he
theorem isiK (K : PySem.W.Frag) (h : X.K = K := by rfl) : CallR X (.builtin "isinstance") (rIsi K) := h ▸ call_isi
theorem isiTK (K : PySem.W.Frag) (h : X.K = K := by rfl) : CallR X (.builtin "isinstance") (rIsiT K) := h ▸ call_isiT
end
/-! ### isinstance -/
def tyD : PyData → String
  | .none => "NoneType"
  | .bool _ => "bool"
  | .int _ => "int"
  | .str _ => "str"
  | .list _ => "list"
  | .tuple _ => "tuple"
  | .dict _ => "dict"
theorem ty_dr {K : PySem.W.Frag} {G H : Hp} {v : V} {d : PyData} (e : Ex G H) (h : Dr G v d) : TyX K H v (.type (tyD d)) := by
  cases h with
  | non => exact .base .non
  | bl b => exact .base (.bl b)
  | int i => exact .base (.int i)
  | str x => exact .base (.str x)
  | lst h1 h2 => exact .base (.lst (e _ _ h1))
  | tup h1 h2 => exact .base (.tup (e _ _ h1))
section
variable {K : PySem.W.Frag} {ρ : DE} {ta : TE} {d : PyData}
theorem ed_isi {n : String} {b : Bool} (h : ED ta ρ d) (hk : kitB (tyD d) n = some b) : ED (tCB (rIsi K) (tCons ta (tCons (tC (.ty n)) tNil))) ρ (.bool b) := fun G H σ e R Q q =>
  h G H σ e R _ fun v G1 H1 g1 d1 => ⟨v, .ty n, .type (tyD d), .type n, b, rfl, .ty n, ty_dr g1.gh d1, kit_ty hk, q _ G1 H1 g1 (.bl b)⟩
theorem ed_isi2 {n m : String} {b c : Bool} (h : ED ta ρ d) (hk : kitB (tyD d) n = some b) (hk2 : kitB (tyD d) m = some c) : ED (tCB (rIsiT K) (tCons ta (tCons (tTup (tCons (tC (.ty n)) (tCons (tC (.ty m)) tNil))) tNil))) ρ (.bool (b || c)) := fun G H σ e R Q q =>
  h G H σ e R _ fun v G1 H1 g1 d1 => ⟨by show 2 ≤ sizeLine; decide, fun p hp => by
    have e2 : Ex H1 (upd H1 p (.tup [.ty n, .ty m])) := Ex.new hp
    refine ⟨v, p, [.ty n, .ty m], .type (tyD d), [.type n, .type m], b || c, rfl, upd_same, .cons (.ty n) (.cons (.ty m) .nil), ty_dr (g1.gh.trans e2) d1, kitAny_cons (kit_ty hk) (fun hb => ?_) (fun hb => ?_), ?_⟩
    · subst hb
      exact kitAny_cons (kit_ty hk2) (fun hc => by subst hc; exact kitAny_nil) (fun hc => by subst hc; rfl)
    · subst hb; rfl
    · exact q _ G1 _ ⟨g1.gg, g1.gh.trans e2, g1.hh.trans e2, g1.fz⟩ (.bl _)⟩
/-- if c: a call for its own sake; the rest -/
theorem q_ifDo {t u : TS} {c : TT} {o : Own} {nx : DE → Own → Prop} {rt : PyData → Prop} {b : Bool} (h : ET c ρ b) (h1 : b = true → SX t ρ o (fun ρ' o' => ρ' = ρ ∧ o' = o) rt) (k : SX u ρ o nx rt) : SX (tSeq (tIfS c t tNext) u) ρ o nx rt :=
  q_of (sx_if h h1 fun _ => sx_next ⟨rfl, rfl⟩) k
end
/-- a def with defaults that may be called by its name -/
structure CalD (P : Program) (w : World) (K : PySem.W.Frag) (mg : Str → Option Value) (base : Heap) (k : Nat) (x : Str) (ps : List Str) (dvs : List V) (sp : Sp) : Prop where
  ex : ∃ f fd ds, FnOk P w K mg base CX0 k f fd ps sp ∧ mg x = some (.ref f) ∧ PySem.W.keepIn K (.ref f) = true ∧ Vals dvs ds ∧ Binds K fd ps ds
end DL

/-! Mir: what the defs compute, as plain functions; the data they are told by. -/
namespace DL
open PySem L2
open Evl (Ex)
def top (i : Nat) : Stmt := PySem.Challenge.pw_fewcorners_k81_whole_all_words_listed.main.body.getD i (.Pass ⟨0, 0, 0, 0⟩)
abbrev L (ns : List Int) : PyData := .list (ns.map PyData.int)
abbrev P2 (p : Int × Int) : PyData := .tuple [.int p.1, .int p.2]
abbrev LP (ps : List (Int × Int)) : PyData := .list (ps.map P2)
abbrev LLP (ps : List (List (Int × Int))) : PyData := .list (ps.map LP)
abbrev LL (nss : List (List Int)) : PyData := .list (nss.map L)
abbrev Wd (w : Int × List Int) : PyData := .tuple [.int w.1, L w.2]
abbrev LW (ws : List (Int × List Int)) : PyData := .list (ws.map Wd)

def rot {α : Type} (ns : List α) (k : Nat) : List α := ns.drop k ++ ns.take k
def shifts (ns : List Int) : List (List Int) :=
  if ns.length < 3 then (if ns.length = 2 then [ns, ns.reverse] else [ns])
  else (List.range ns.length).map (fun k => rot ns k) ++ (List.range ns.length).map (fun k => rot ns.reverse k)
def lexLt : List Int → List Int → Bool
  | [], [] => false
  | [], _ :: _ => true
  | _ :: _, [] => false
  | x :: xs, y :: ys => if x = y then lexLt xs ys else decide (x < y)
def lexLe : List Int → List Int → Bool
  | [], _ => true
  | _ :: _, [] => false
  | x :: xs, y :: ys => if x = y then lexLe xs ys else decide (x ≤ y)
/-- the first least of x and the rest -/
def minL : List Int → List (List Int) → List Int
  | x, [] => x
  | x, y :: r => minL (if lexLt y x then y else x) r
def least (ns : List Int) : List Int := match shifts ns with
  | [] => []
  | x :: r => minL x r
def at_ (ns : List Int) (k : Nat) : Int := ns.getD k 0
def canMerge (ns : List Int) (p : Nat) : Bool :=
  decide (0 < at_ ns p) && (decide (0 < at_ ns ((p + 1) % ns.length)) && ((at_ ns ((p + ns.length / 2) % ns.length) == 0) && (at_ ns ((p + ns.length / 2 + 1) % ns.length) == 0)))
def mergeable (ns : List Int) : Option Nat := (List.range ns.length).find? (canMerge ns)
def isRound (ns : List Int) : Bool :=
  if (List.range (ns.length / 2)).any (fun a => (at_ ns a == 0) && (at_ ns (a + ns.length / 2) == 0)) then false
  else if (mergeable ns).isSome then false
  else (List.range ns.length).all (fun a => decide (2 ≤ (((ns ++ ns).drop a).take (ns.length / 2 - 1)).sum))

def notNone : PyData → Bool
  | .none => false
  | _ => true
/-! small facts -/
theorem fdiv_nat (a b : Nat) : (a : Int).fdiv (b : Int) = ((a / b : Nat) : Int) := by
  rw [Int.fdiv_eq_ediv_of_nonneg _ (by omega)]
  exact (Int.natCast_ediv a b).symm
theorem fdiv2 (a : Nat) : (a : Int).fdiv 2 = ((a / 2 : Nat) : Int) := fdiv_nat a 2
theorem fmod_nat (a b : Nat) : (a : Int).fmod (b : Int) = ((a % b : Nat) : Int) := by
  rw [Int.fmod_eq_emod_of_nonneg _ (by omega)]
  exact (Int.natCast_emod a b).symm
theorem map_drop' {α β : Type} (f : α → β) (xs : List α) (n : Nat) : (xs.map f).drop n = (xs.drop n).map f := List.map_drop.symm
theorem cutD_from {α : Type} (xs : List α) (k : Nat) (h : k ≤ xs.length) : cutD xs (some (k : Int)) none = xs.drop k := by
  unfold cutD
  rw [HT.sIx_none, HT.sIx_nat, Nat.min_eq_left h]
  exact List.take_of_length_le (by rw [List.length_drop]; omega)
theorem cutD_to {α : Type} (xs : List α) (k : Nat) (h : k ≤ xs.length) : cutD xs none (some (k : Int)) = xs.take k := by
  unfold cutD
  rw [HT.sIx_none, HT.sIx_nat, Nat.min_eq_left h, List.drop_zero, Nat.sub_zero]
theorem cutD_mid {α : Type} (xs : List α) (j k : Nat) (h : j ≤ k) (h2 : j ≤ xs.length) : cutD xs (some (j : Int)) (some (k : Int)) = (xs.drop j).take (k - j) := by
  unfold cutD
  rw [HT.sIx_nat, HT.sIx_nat, Nat.min_eq_left h2]
  by_cases q : k ≤ xs.length
  · rw [Nat.min_eq_left q]
  · rw [Nat.min_eq_right (by omega), List.take_of_length_le (by rw [List.length_drop]; omega), List.take_of_length_le (by rw [List.length_drop]; omega)]
theorem cutD_map {α β : Type} (f : α → β) (xs : List α) (lo hi : Option Int) : cutD (xs.map f) lo hi = (cutD xs lo hi).map f := by
  unfold cutD
  rw [List.length_map, List.map_take, List.map_drop]
theorem eqv_int (a b : Int) : PyData.eqv (.int a) (.int b) = (a == b) := by simp [PyData.eqv]
theorem sh_int (a : Int) : SeqAt.shaped (.int a) = true := by simp [SeqAt.shaped, PyData.canLay0, PyData.depth]
section
variable {K : PySem.W.Frag} {ρ : DE} {te ta tb : TE}
theorem getD_at {ns : List Int} {k : Nat} (h : k < ns.length) : L2.atI (ns.map PyData.int) (k : Int) = some (.int (ns.getD k 0)) := by
  refine atI_nat ?_
  rw [List.getElem?_map, List.getElem?_eq_getElem h, List.getD_eq_getElem?_getD, List.getElem?_eq_getElem h]
  rfl
theorem ed_at {ns : List Int} {i : Int} (k : Nat) (ha : ED ta ρ (L ns)) (hb : ED tb ρ (.int i)) (e : i = (k : Int)) (h : k < ns.length) : ED (tOp (rIxL K) ta tb) ρ (.int (at_ ns k)) := by
  subst e
  exact ed_op ha hb (rd_ixL (getD_at h))
theorem ed_len {ds : List PyData} {n : Nat} (ha : ED ta ρ (.list ds)) (h : ds.length = n) : ED (tCB (Evl.rLenS K) (tCons ta tNil)) ρ (.int (n : Int)) := by
  subst h
  exact ed_cb (ea_cons ha ea_nil) rc_len
theorem ed_eqI {a b : Int} (ha : ED ta ρ (.int a)) (hb : ED tb ρ (.int b)) : ED (tOp (rEqD K) ta tb) ρ (.bool (a == b)) := by
  rw [← eqv_int]
  exact ed_op ha hb (rd_eqD (sh_int a) (sh_int b))
theorem ed_neI {a b : Int} (ha : ED ta ρ (.int a)) (hb : ED tb ρ (.int b)) : ED (tOp (rNeD K) ta tb) ρ (.bool (!(a == b))) := by
  rw [← eqv_int]
  exact ed_op ha hb (rd_neD (sh_int a) (sh_int b))
theorem ed_rev {ds : List PyData} (h : ED te ρ (.list ds)) : ED (tRevL K te) ρ (.list ds.reverse) := fun G H σ e R Q q =>
  h G H σ e R _ fun v G1 H1 g1 d1 => by
    cases d1 with
    | @lst pa xa _ ha hd =>
      refine ⟨_, _, rfl, Evl.sq_of (g1.gh _ _ ha), fun p hp => ?_⟩
      have g := Gw.new (o := .lst xa.reverse) g1.gh hp
      exact q _ _ _ (g1.trans g) (.lst upd_same (hd.rev.mono g.gg))
theorem ed_sub {a b c : Int} (ha : ED ta ρ (.int a)) (hb : ED tb ρ (.int b)) (e : a - b = c) : ED (tOp (rI0 fun i j => .int (i - j)) ta tb) ρ (.int c) := e ▸ ed_op ha hb rd_I
theorem ed_add {a b c : Int} (ha : ED ta ρ (.int a)) (hb : ED tb ρ (.int b)) (e : a + b = c) : ED (tOp (rI0 fun i j => .int (i + j)) ta tb) ρ (.int c) := e ▸ ed_op ha hb rd_I
theorem ed_half {a : Int} (n : Nat) (ha : ED ta ρ (.int a)) (e : a = (n : Int)) : ED (tOp (rI CDivN fun i j => .int (i.fdiv j)) ta (tC (.int 2))) ρ (.int ((n / 2 : Nat) : Int)) := by
  subst e
  rw [← fdiv2]
  exact ed_op ha (ed_int 2) (rd_IC ⟨by decide, by decide⟩)
theorem ed_mod {a b : Int} (n m : Nat) (ha : ED ta ρ (.int a)) (hb : ED tb ρ (.int b)) (e : a = (n : Int)) (e2 : b = (m : Int)) (hm : m ≠ 0) : ED (tOp (rI (fun _ j => j ≠ 0) fun i j => .int (i.fmod j)) ta tb) ρ (.int ((n % m : Nat) : Int)) := by
  subst e e2
  rw [← fmod_nat]
  exact ed_op ha hb (rd_IC (by omega))
theorem ed_lt {a b : Int} (ha : ED ta ρ (.int a)) (hb : ED tb ρ (.int b)) : ED (tOp (rI0 fun i j => .bl (decide (i < j))) ta tb) ρ (.bool (decide (a < b))) := ed_op ha hb (rd_B (g := fun i j => decide (i < j)))
theorem ed_le {a b : Int} (ha : ED ta ρ (.int a)) (hb : ED tb ρ (.int b)) : ED (tOp (rI0 fun i j => .bl (decide (i ≤ j))) ta tb) ρ (.bool (decide (a ≤ b))) := ed_op ha hb (rd_B (g := fun i j => decide (i ≤ j)))
theorem ed_gt {a b : Int} (ha : ED ta ρ (.int a)) (hb : ED tb ρ (.int b)) : ED (tOp (rI0 fun i j => .bl (decide (j < i))) ta tb) ρ (.bool (decide (b < a))) := ed_op ha hb (rd_B (g := fun i j => decide (j < i)))
theorem ed_ge {a b : Int} (ha : ED ta ρ (.int a)) (hb : ED tb ρ (.int b)) : ED (tOp (rI0 fun i j => .bl (decide (j ≤ i))) ta tb) ρ (.bool (decide (b ≤ a))) := ed_op ha hb (rd_B (g := fun i j => decide (j ≤ i)))
end
section
variable {K : PySem.W.Frag} {ρ : DE} {te tl : TE} {tt : TT} {ta : TA}
/-- every turn gives: [e for i in range(n)] -/
theorem ed_lcRm {j : Nat} {vs : List Nat} {n : Nat} (f : Nat → PyData) (h : EA ta ρ [.int (n : Int)]) (hn : n < 50000) (hj : j ∈ vs)
    (he : ∀ i : Nat, i < n → ED te ((wipeD ρ vs).set j (some (.int (i : Int)))) (f i)) : ED (tLc (iRng1 ta) (gName j) tYes te vs) ρ (.list ((List.range n).map f)) := by
  have q := ed_lcR (te := te) (tt := tYes) (fun _ => true) f h (by omega) hj (fun _ _ => et_yes) (fun i hi _ => he i (by omega))
  rw [List.filter_eq_self.mpr (fun _ _ => rfl)] at q
  exact q
theorem ed_lcRb {j : Nat} {vs : List Nat} {n : Nat} (g : Nat → Bool) (h : EA ta ρ [.int (n : Int)]) (hn : n < 50000) (hj : j ∈ vs)
    (he : ∀ i : Nat, i < n → ED te ((wipeD ρ vs).set j (some (.int (i : Int)))) (.bool (g i))) : ED (tLc (iRng1 ta) (gName j) tYes te vs) ρ (.list (((List.range n).map g).map PyData.bool)) := by
  rw [List.map_map]
  exact ed_lcRm (fun i => .bool (g i)) h hn hj he
/-- over a list of codes: [e for x in xs] -/
theorem ed_lcLm {α : Type} {j : Nat} {vs : List Nat} {xs : List α} (c : α → PyData) (f : α → PyData) (h : ED tl ρ (.list (xs.map c))) (hl : xs.length < 50000) (hj : j ∈ vs) (g : PyData → PyData) (hg : ∀ x ∈ xs, g (c x) = f x)
    (he : ∀ x, x ∈ xs → ED te ((wipeD ρ vs).set j (some (c x))) (f x)) : ED (tLc (iList K tl) (gName j) tYes te vs) ρ (.list (xs.map f)) := by
  have q := ed_lcL (te := te) (tt := tYes) (K := K) (fun _ => true) g h hj (by rw [List.length_map]; exact hl) (fun _ _ => et_yes) (fun y hy _ => by
    obtain ⟨x, hx, rfl⟩ := List.mem_map.mp hy
    rw [hg x hx]
    exact he x hx)
  rw [List.filter_eq_self.mpr (fun _ _ => rfl), List.map_map] at q
  rw [List.map_congr_left (g := g ∘ c) fun x hx => (hg x hx).symm]
  exact q
theorem rd_notN {x : PyData} {b : Bool} (h : notNone x = b) : RD (fun x y H Q => y = V.non ∧ Q (.bl (!decide (x = V.non))) H) x .none (.bool b) := fun G H v u e a b' Q q => by
  cases b'
  refine ⟨rfl, ?_⟩
  subst h
  have k : Dr G (.bl (!decide (v = V.non))) (.bool (notNone x)) := by
    cases a with
    | non => exact .bl false
    | bl b => exact .bl true
    | int i => exact .bl true
    | str x => exact .bl true
    | lst h1 h2 => exact .bl true
    | tup h1 h2 => exact .bl true
  exact q _ G H (Gw.refl e) k
end
theorem u65 {k : Nat} {A : Around} (hr : Room k A) : A.units + 65 < cLine := by have := hr.un; omega
end DL

/-! DLc: <=, min, sorted, not in of lists of data, as rules. -/
namespace PySem
section
variable {prog : Program} {w : World} {A : Around} {E : Value → Shared → Prop} {s : Shared}
/-- min(a, b, c), the items compared where H stands -/
theorem call_min_threeH {a b c : Value} {Q : Value → Shared → Prop}
    (h : wpAny (model prog w) A.in1 (pyIter (.ref s.heap.objs.size)) (fun it s₂ => ∃ I fp wr G n P St H bt, it = .ref I ∧ WalksS prog w A.in1 I fp wr G n P St ∧ St 0 s₂ ∧ (∀ b ∈ fp, b < s₂.heap.objs.size) ∧ 0 < n ∧
      (∀ b o, H.get? b = some o → b ∉ wr) ∧ (∀ b o, H.get? b = some o → s₂.heap.get? b = some o) ∧ CmpIn prog w A.in1 .Lt H P bt ∧ ∀ v s', P (argBest bt (n - 1)) v → Moved wr G s₂ s' → Q v s') E
      { s with heap := s.heap.push { cls := .type "tuple", data := .seq #[a, b, c] } }) :
    wpAny (model prog w) A (call (.builtin "min") [a, b, c]) Q E s := by
  have hname : (toString "min" ++ toString ".loop" : String) = "min.loop" := by decide
  refine call_function_tree F.kind_min F.plain_min F.entry_min (F.args_min3 _ _ _) ?_
  show wpAny _ A.in1 (Builtin.Builtins.bindParams "min" ["key", "default"] 0 ⟨[], []⟩ >>= _) _ _ s
  refine wpAny_bind (wpAny_of_eq (show Builtin.Builtins.bindParams "min" ["key", "default"] 0 ⟨[], []⟩ = pure [none, none] from rfl) ?_)
  show wpAny _ A.in1 (newTuple [a, b, c] >>= _) _ _ s
  refine wpAny_bind (wpAny_newObj_type ?_)
  refine wpAny_bind (wpAny_mono h (fun it s₂ h₂ => ?_) fun _ _ e => e)
  obtain ⟨I, fp, wr, G, n, P, St, H, bt, rfl, W, hst, hfp, hn, hw, hkeep, hcmp, hQ⟩ := h₂
  refine wpAny_bind (wpAny_newObj_type ?_)
  have hSf : s₂.heap.objs.size ∉ fp := fun hm => Nat.lt_irrefl _ (hfp _ hm)
  rw [hname]
  refine wpAny_pure ⟨plainId_quiet F.plain_min_loop _, codeAny_min_loop_firstH W H hw bt hcmp s₂.heap.objs.size hSf (fresh_in hkeep) _ hn (fun b o e => Heap.get?_push_of_some _ (hkeep b o e)) (W.frame 0 s₂ _ s₂.toks hst (Nat.le_refl _) fun b _ o e => Heap.get?_push_of_some _ e) (Heap.get?_push_size _ rfl) fun v s' hP hm => ?_⟩
  exact hQ v s' hP (Moved.drop_new (tk := s₂.toks) hm (Nat.le_refl _))
end
end PySem

namespace DL
open PySem L2
open Evl (Ex)
open PySem.W (dataLt alike alikeAll AlikeAll AllAlike Sortable minD dataLe EachIs)
theorem minD_mem (x : PyData) : ∀ xs : List PyData, minD x xs ∈ x :: xs := by
  intro xs
  unfold minD
  suffices h : ∀ (ys : List PyData) (a : PyData) (l : List PyData), a ∈ l → (∀ y ∈ ys, y ∈ l) → ys.foldl (fun a y => if dataLt y a then y else a) a ∈ l from
    h xs x (x :: xs) List.mem_cons_self fun y hy => List.mem_cons_of_mem _ hy
  intro ys
  induction ys with
  | nil => intro a l ha _; exact ha
  | cons y ys ih =>
    intro a l ha hy
    rw [List.foldl_cons]
    refine ih _ l ?_ fun z hz => hy z (List.mem_cons_of_mem _ hz)
    split
    · exact hy y List.mem_cons_self
    · exact ha
section
variable {K : PySem.W.Frag} {H : Hp}
theorem dpAll_at : ∀ {xs : List V} {ds : List PyData} {i : Nat} {x : V}, DpAll K H xs ds → xs[i]? = some x → ∃ d, ds[i]? = some d ∧ Dp K H x d
  | _, [], _, _, h, e => by cases h; simp at e
  | _, d :: ds, 0, x, h, e => by
    cases h with
    | cons h1 h2 => simp at e; subst e; exact ⟨d, rfl, h1⟩
  | _, d :: ds, i + 1, x, h, e => by
    cases h with
    | cons h1 h2 =>
      obtain ⟨z, a, b⟩ := dpAll_at (i := i) (x := x) h2 (by simpa using e)
      exact ⟨z, by simpa using a, b⟩
end
theorem vals_at {xs : List V} {us : List Value} (r : Vals xs us) {i : Nat} {u : Value} (e : us[i]? = some u) : ∃ x, xs[i]? = some x ∧ RelV x u := by
  have hl := r.length
  obtain ⟨hi, e2⟩ := List.getElem?_eq_some_iff.mp e
  have hx : xs[i]? = some xs[i] := List.getElem?_eq_getElem (by omega)
  obtain ⟨u', a, b⟩ := Vals.get r hx
  rw [e] at a
  cases a
  exact ⟨_, hx, b⟩
/-! ### the rules -/
def rLeL (K : PySem.W.Frag) : R2 := fun x y H Q => ∃ d e, Dp K H x d ∧ Dp K H y e ∧ alike d e = true ∧ d ≠ .none ∧ d.depth ≤ 50 ∧ Q (.bl (!dataLt e d)) H
def rMinD (K : PySem.W.Frag) : List V → Hp → VK → Prop := fun vs H Q => ∃ (a : Addr) (xs : List V) (d : PyData) (ds : List PyData), vs = [.ref a] ∧ SqL K H a xs ∧ DpAll K H xs (d :: ds) ∧ AlikeAll (d :: ds) ∧ PyData.depthAll (d :: ds) ≤ 50 ∧
  ∀ (i : Nat) v, xs[i]? = some v → (d :: ds)[i]? = some (minD d ds) → Q v H
def rMin3 (K : PySem.W.Frag) : List V → Hp → VK → Prop := fun vs H Q => ∃ (x y z : V) (d e f : PyData), vs = [x, y, z] ∧ DpAll K H [x, y, z] [d, e, f] ∧ AlikeAll [d, e, f] ∧ PyData.depthAll [d, e, f] ≤ 50 ∧
  ∀ (i : Nat) v, [x, y, z][i]? = some v → [d, e, f][i]? = some (minD d [e, f]) → Q v H
def rSortD (K : PySem.W.Frag) : List V → Hp → VK → Prop := fun vs H Q => ∃ (a : Addr) (xs : List V) (β : Type) (enc : β → PyData) (bs : List β) (Rl : V → β → Prop), vs = [.ref a] ∧ SqL K H a xs ∧ Paired Rl xs bs ∧ DpAll K H xs (bs.map enc) ∧ AllAlike (bs.map enc) ∧
  Sortable (bs.map enc) ∧ bs.length ≤ 1000 ∧ (∀ b ∈ bs, (enc b).depth ≤ 40) ∧ ∀ ys p, Paired Rl ys (bs.mergeSort (dataLe false enc)) → ys.length = bs.length → H p = none → Q (.ref p) (upd H p (.lst ys))
section
variable {X : Cx}
theorem leLK (K : PySem.W.Frag) (hu : X.A.units + 64 < cLine) (hK : X.K = K := by rfl) : OpR X (compareOp .LtE) (rLeL K) := by
  subst hK
  intro pins s σ H x y v u Q I rx ry h
  obtain ⟨d, e, hd, he, ha, hn, hz, q⟩ := h
  obtain ⟨as, r1⟩ := Dp.reads I d x v hd rx
  obtain ⟨bs, r2⟩ := Dp.reads I e y u he ry
  exact PySem.W.le_data r1 r2 ha hn (by have := Nat.min_le_left d.depth e.depth; omega) ⟨.bl _, H, I, rfl, q⟩
/-- the item that min hands back, known by its place -/
theorem min_pick {pins : List (Addr × Obj)} {s s' : Shared} {σ : St} {H : Hp} {xs : List V} {us : List Value} {d : PyData} {ds : List PyData} {i : Nat} {v : Value} {bs : List Addr} (I : Inv X pins σ H s) (rv : Vals xs us) (hd : DpAll X.K H xs (d :: ds)) (ha : AlikeAll (d :: ds))
    (hv : us[i]? = some v) (hk : ∀ b o, s.heap.get? b = some o → s'.heap.get? b = some o) (r : Reads s'.heap v (minD d ds) bs) : ∃ x, xs[i]? = some x ∧ RelV x v ∧ (d :: ds)[i]? = some (minD d ds) := by
  obtain ⟨x, hx, rx⟩ := vals_at rv hv
  obtain ⟨e, he, de⟩ := dpAll_at hd hx
  obtain ⟨as, r1⟩ := Dp.reads I e x v de rx
  have r2 := PySem.W.reads_keeps hk r1
  have me : e ∈ d :: ds := List.mem_of_getElem? he
  have := PySem.W.alike_unique e (minD d ds) v as bs (ha.1 e me _ (minD_mem d ds)) r2 r
  subst this
  exact ⟨x, hx, rx, he⟩
theorem minK (K : PySem.W.Frag) (hc : X.calm = true) (hu : X.A.units + 64 < cLine) (hK : X.K = K := by rfl) : CallR X (.builtin "min") (rMinD K) := by
  subst hK
  intro pins s σ H vs us Q I r h
  obtain ⟨a, xs, d, ds, rfl, hs, hd, ha, hz, q⟩ := h
  obtain ⟨its, rv, hl, _⟩ := I.list hs
  obtain ⟨u, rfl, ru⟩ := vals1 r
  obtain rfl : u = Value.ref a := ru
  obtain ⟨as, hr⟩ := Dp.readsAll I (d :: ds) xs its hd rv
  refine PySem.W.min_list_data (vs := its.toArray) (I.ok.hd hc) hl.isList (by simpa using hr) ha (by omega) fun i v h' tk bs hv hm hk => ?_
  obtain ⟨x, hx, rx, hi⟩ := min_pick (s' := { s with heap := h', toks := tk }) I rv hd ha (i := i) (v := v) (by simpa using hv) hk hm
  exact ⟨x, H, I.kept hk, rx, q i x hx hi⟩
theorem vals3' {x y z : V} {us : List Value} (r : Vals [x, y, z] us) : ∃ u v t, us = [u, v, t] ∧ RelV x u ∧ RelV y v ∧ RelV z t := by
  cases r with
  | cons a r =>
    cases r with
    | cons b r =>
      cases r with
      | cons c r =>
        cases r
        exact ⟨_, _, _, rfl, a, b, c⟩
theorem min3K (K : PySem.W.Frag) (hc : X.calm = true) (hu : X.A.units + 64 < cLine) (hK : X.K = K := by rfl) : CallR X (.builtin "min") (rMin3 K) := by
  subst hK
  intro pins s σ H vs us Q I r h
  obtain ⟨x, y, z, d, e, f, rfl, hd, ha, hz, q⟩ := h
  obtain ⟨u1, u2, u3, rfl, r1, r2, r3⟩ := vals3' r
  obtain ⟨as, hr⟩ := Dp.readsAll I [d, e, f] [x, y, z] [u1, u2, u3] hd r
  have kp : ∀ b o, s.heap.get? b = some o → (s.heap.push { cls := .type "tuple", data := .seq #[u1, u2, u3] }).get? b = some o := fun b o e => Heap.get?_push_of_some _ e
  have hT : (s.heap.push { cls := .type "tuple", data := .seq #[u1, u2, u3] }).IsTuple s.heap.objs.size #[u1, u2, u3] := ⟨_, Heap.get?_push_size _ rfl, rfl, 0, rfl⟩
  have hr2 : ReadsAll (s.heap.push { cls := .type "tuple", data := .seq #[u1, u2, u3] }) (#[u1, u2, u3] : Array Value).toList [d, e, f] as := PyProof.Rows.ReadsAll.keeps kp hr
  refine PySem.call_min_threeH (PySem.W.iter_tupleW (A := X.A.in1) (s := { s with heap := s.heap.push { cls := .type "tuple", data := .seq #[u1, u2, u3] } }) (I.ok.hd hc) hT fun s₂ e₂ W st hfp hw hk => ?_)
  refine ⟨_, _, _, _, _, _, _, _, _, rfl, W, st, hfp, by simp, hw, hk, PySem.W.cmpIn_lt (A := X.A.in1) hr2 ha (by show X.A.units + 1 + _ < _; omega), fun v s' hP m => ?_⟩
  obtain ⟨h', tk, rfl, hk'⟩ := PySem.W.moved_old e₂ rfl m
  obtain ⟨bs, rm, _, _, _⟩ := PySem.W.readsAll_atA hr2 _ v hP
  have e2 := (PySem.W.argBest_fold dataLt PyData.none d [e, f] 2 (Nat.le_refl _)).2
  have e3 : ([d, e, f].getD (argBest (fun i j => dataLt ([d, e, f].getD i .none) ([d, e, f].getD j .none)) 2) .none) = minD d [e, f] := e2
  have rm2 : Reads h' v (minD d [e, f]) bs := PySem.W.reads_keeps hk' (by rw [← e3]; exact rm)
  have hold : ∀ b o, s.heap.get? b = some o → h'.get? b = some o := fun b o q => hk' b o (kp b o q)
  obtain ⟨x', hx', rx', hi'⟩ := min_pick (s' := { s with heap := h', toks := tk }) I r hd ha (i := _) (v := v) (by simpa using hP) hold rm2
  exact ⟨x', H, I.kept hold, rx', q _ x' hx' hi'⟩
theorem each_of_paired {β : Type} {S : V → β → Prop} : ∀ {xs : List V} {us : List Value} {bs : List β}, Vals xs us → Paired S xs bs → EachIs (fun u b => ∃ x, RelV x u ∧ S x b) us bs
  | _, _, _, .nil, .nil => .nil
  | _, _, _, .cons r t, .cons a b => .cons ⟨_, r, a⟩ (each_of_paired t b)
theorem paired_of_each {β : Type} {S : V → β → Prop} : ∀ {us : List Value} {bs : List β}, EachIs (fun u b => ∃ x, RelV x u ∧ S x b) us bs → ∃ xs, Vals xs us ∧ Paired S xs bs
  | _, _, .nil => ⟨[], .nil, .nil⟩
  | _, _, .cons ⟨x, r, a⟩ t => by
    obtain ⟨xs, r2, a2⟩ := paired_of_each t
    exact ⟨x :: xs, .cons r r2, .cons a a2⟩
theorem sortedK (K : PySem.W.Frag) (hu : X.A.units + 64 < cLine) (hK : X.K = K := by rfl) : CallR X (.builtin "sorted") (rSortD K) := by
  subst hK
  intro pins s σ H vs us Q I r h
  obtain ⟨a, xs, β, enc, bs, Rl, rfl, hs, hp, hd, hal, hk, hz, hdp, q⟩ := h
  obtain ⟨its, rv, hl, hz2⟩ := I.list hs
  obtain ⟨u, rfl, ru⟩ := vals1 r
  obtain rfl : u = Value.ref a := ru
  obtain ⟨as, hr⟩ := Dp.readsAll I (bs.map enc) xs its hd rv
  refine PySem.W.sorted_data (R := fun u b => ∃ x, RelV x u ∧ Rl x b) hl.isList (each_of_paired rv hp) (PySem.W.readsAll_each enc hr) hal hk (Nat.le_trans hz (by decide)) (fun b hb => by have := hdp b hb; omega) fun out hlen ho => ?_
  obtain ⟨ys, ry, py⟩ := paired_of_each ho
  obtain ⟨ep, he'⟩ := PyProof.Rows.sortedAll_at s.heap its out.toArray
  have hyl : ys.length = bs.length := by rw [ry.length, hlen]
  exact ⟨.ref _, upd H (s.heap.objs.size + 1) (.lst ys), I.laid (t' := s.toks) (fun _ _ => PyProof.Rows.sortedAll_old) (Nat.le_succ _) ⟨by rw [hyl]; exact Nat.le_trans hz (by decide), out, ep, ry, he'⟩, rfl, q ys _ py hyl (I.hok.fresh (Nat.le_succ _))⟩
theorem notInK (K : PySem.W.Frag) (hu : X.A.units + 65 < cLine) (hK : X.K = K := by rfl) : OpR X (compareOp .NotIn) (rNotInD K) := hK ▸ op_notInD hu
end
end DL

/-! Mir2: order and equality of the data, as plain functions. -/
namespace DL
open PySem L2
open Evl (Ex)
open PySem.W (dataLt alike alikeAll AlikeAll AllAlike Sortable minD dataLe EachIs)
theorem lexLt_eq : ∀ a b : List Int, decide (a < b) = lexLt a b
  | [], [] => by simp [lexLt]
  | [], y :: ys => by simp [lexLt]
  | x :: xs, [] => by simp [lexLt]
  | x :: xs, y :: ys => by
    unfold lexLt
    by_cases h : x = y
    · rw [if_pos h, ← lexLt_eq xs ys]
      simp [h, List.cons_lt_cons_iff]
    · rw [if_neg h]
      simp [h, List.cons_lt_cons_iff]
theorem dlt_L (a b : List Int) : dataLt (L a) (L b) = lexLt a b := by
  rw [← lexLt_eq, ← PySem.W.dataLt_ints]
  exact PySem.W.dataLt_list _ _
theorem lexLt_irr : ∀ a : List Int, lexLt a a = false
  | [] => rfl
  | x :: xs => by unfold lexLt; rw [if_pos rfl]; exact lexLt_irr xs
theorem alike_L (a b : List Int) : alike (L a) (L b) = true := by
  rw [alike]
  exact PySem.W.alike_ints a b
theorem depth_L (a : List Int) : (L a).depth = 1 := by
  have h := PySem.W.depth_ints a
  simp only [PyData.depth, h]
theorem eqvAll_ints : ∀ a b : List Int, PyData.eqvAll (a.map PyData.int) (b.map PyData.int) = (a == b)
  | [], [] => by simp [PyData.eqvAll]
  | [], _ :: _ => by simp [PyData.eqvAll]
  | _ :: _, [] => by simp [PyData.eqvAll]
  | x :: xs, y :: ys => by
    rw [List.map_cons, List.map_cons, PyData.eqvAll, eqvAll_ints xs ys, eqv_int]
    rfl
theorem eqv_L (a b : List Int) : PyData.eqv (L a) (L b) = (a == b) := by
  rw [PyData.eqv]
  exact eqvAll_ints a b
theorem lay_ints : ∀ a : List Int, PyData.canLayAll0 (a.map PyData.int) = true
  | [] => by simp [PyData.canLayAll0]
  | x :: xs => by simp [PyData.canLayAll0, PyData.canLay0, lay_ints xs]
theorem lay_L (a : List Int) : (L a).canLay0 = true := by
  rw [PyData.canLay0]
  exact lay_ints a
theorem sh_of {d : PyData} (h1 : d.canLay0 = true) (h2 : d.depth ≤ 64) : SeqAt.shaped d = true := by
  show (d.canLay0 && decide (d.depth ≤ 64)) = true
  rw [Bool.and_eq_true]
  exact ⟨h1, decide_eq_true h2⟩
theorem sh_L (a : List Int) : SeqAt.shaped (L a) = true := sh_of (lay_L a) (by rw [depth_L]; decide)
/-! words -/
def wLt (p q : Int × List Int) : Bool := if p.1 = q.1 then lexLt p.2 q.2 else decide (p.1 < q.1)
def wLe (p q : Int × List Int) : Bool := !wLt q p
theorem dlt_W (p q : Int × List Int) : dataLt (Wd p) (Wd q) = wLt p q := by
  unfold wLt
  rw [PySem.W.dataLt_pair (by simp [alike]) (alike_L _ _), PySem.W.dataLt_int, eqv_int, eqv_L, dlt_L]
  by_cases h : p.1 = q.1
  · rw [if_pos h, if_pos (by simpa using h)]
    by_cases h2 : p.2 = q.2
    · rw [if_pos (by simpa using h2), h2, lexLt_irr]
    · rw [if_neg (by simpa using h2)]
  · rw [if_neg h, if_neg (by simpa using h)]
theorem dle_W : dataLe false Wd = wLe := by
  funext p q
  show (!dataLt (Wd q) (Wd p)) = wLe p q
  rw [dlt_W]
  rfl
theorem alike_W (p q : Int × List Int) : alike (Wd p) (Wd q) = true := by
  have h := PySem.W.alike_ints p.2 q.2
  simp [alike, alikeAll, h]
theorem depth_W (p : Int × List Int) : (Wd p).depth = 2 := by
  have h := PySem.W.depth_ints p.2
  simp [PyData.depth, PyData.depthAll, h]
theorem lay_W (p : Int × List Int) : (Wd p).canLay0 = true := by
  have h := lay_ints p.2
  simp [PyData.canLay0, PyData.canLayAll0, h]
theorem eqv_W (p q : Int × List Int) : PyData.eqv (Wd p) (Wd q) = (p == q) := by
  have e : PyData.eqv (Wd p) (Wd q) = (PyData.eqv (.int p.1) (.int q.1) && (PyData.eqv (L p.2) (L q.2) && true)) := by simp only [PyData.eqv, PyData.eqvAll]
  rw [e, eqv_int, eqv_L, Bool.and_true]
  rfl
theorem layAll_map {α : Type} (c : α → PyData) (h : ∀ x, (c x).canLay0 = true) : ∀ xs : List α, PyData.canLayAll0 (xs.map c) = true
  | [] => by simp [PyData.canLayAll0]
  | x :: xs => by rw [List.map_cons, PyData.canLayAll0, h x, layAll_map c h xs]; rfl
theorem depthAll_map {α : Type} (c : α → PyData) (n : Nat) (h : ∀ x, (c x).depth ≤ n) : ∀ xs : List α, PyData.depthAll (xs.map c) ≤ n
  | [] => by simp [PyData.depthAll]
  | x :: xs => by
    have h1 := h x
    have h2 := depthAll_map c n h xs
    rw [List.map_cons, PyData.depthAll]
    omega
theorem eqvAll_map {α : Type} [BEq α] (c : α → PyData) (h : ∀ x y, PyData.eqv (c x) (c y) = (x == y)) : ∀ a b : List α, PyData.eqvAll (a.map c) (b.map c) = (a == b)
  | [], [] => by simp [PyData.eqvAll]
  | [], _ :: _ => by simp [PyData.eqvAll]
  | _ :: _, [] => by simp [PyData.eqvAll]
  | x :: xs, y :: ys => by
    rw [List.map_cons, List.map_cons, PyData.eqvAll, eqvAll_map c h xs ys, h]
    rfl
theorem sh_list {α : Type} (c : α → PyData) (n : Nat) (hn : n ≤ 60) (h1 : ∀ x, (c x).canLay0 = true) (h2 : ∀ x, (c x).depth ≤ n) (xs : List α) : SeqAt.shaped (.list (xs.map c)) = true := by
  refine sh_of ?_ ?_
  · rw [PyData.canLay0]
    exact layAll_map c h1 xs
  · have h := depthAll_map c n h2 xs
    simp only [PyData.depth]
    omega
theorem sh_LW (ws : List (Int × List Int)) : SeqAt.shaped (LW ws) = true := sh_list Wd 2 (by decide) lay_W (fun w => by rw [depth_W]; decide) ws
theorem sh_W (w : Int × List Int) : SeqAt.shaped (Wd w) = true := sh_of (lay_W w) (by rw [depth_W]; decide)
theorem eqv_LW (a b : List (Int × List Int)) : PyData.eqv (LW a) (LW b) = (a == b) := by
  rw [PyData.eqv]
  exact eqvAll_map Wd eqv_W a b
theorem lay_P2 (p : Int × Int) : (P2 p).canLay0 = true := by simp [PyData.canLay0, PyData.canLayAll0]
theorem depth_P2 (p : Int × Int) : (P2 p).depth = 1 := by simp [PyData.depth, PyData.depthAll]
theorem sh_LP (ps : List (Int × Int)) : SeqAt.shaped (LP ps) = true := sh_list P2 1 (by decide) lay_P2 (fun w => by rw [depth_P2]; decide) ps
theorem eqv_LPn (ps : List (Int × Int)) : PyData.eqv (LP ps) (.list []) = ps.isEmpty := by
  cases ps <;> simp [PyData.eqv, PyData.eqvAll]
/-! ### by data -/
theorem pair_dp {K : PySem.W.Frag} {G H : Hp} {α : Type} {c : α → PyData} : ∀ {xs : List V} {bs : List α}, DrA G xs (bs.map c) → Paired (fun x b => Dr G x (c b)) xs bs
  | _, [], h => by cases h; exact .nil
  | _, b :: bs, h => by
    cases h with
    | cons h1 h2 => exact .cons h1 (pair_dp (K := K) (H := H) h2)
theorem pair_dr {G : Hp} {α : Type} {c : α → PyData} : ∀ {xs : List V} {bs : List α}, Paired (fun x b => Dr G x (c b)) xs bs → DrA G xs (bs.map c)
  | _, _, .nil => .nil
  | _, _, .cons a t => .cons a (pair_dr t)
section
variable {K : PySem.W.Frag} {ρ : DE} {te ta tb : TE}
theorem rd_leL (a b : List Int) : RD (rLeL K) (L a) (L b) (.bool (!lexLt b a)) := fun G H v u e x y Q q => by
  refine ⟨L a, L b, x.dp e, y.dp e, alike_L a b, (fun z => nomatch z), by rw [depth_L]; decide, ?_⟩
  rw [dlt_L]
  exact q _ G H (Gw.refl e) (.bl _)
theorem alikeAll_L (x : List Int) (xs : List (List Int)) : AlikeAll ((x :: xs).map L) := by
  refine ⟨fun a ha b hb => ?_, fun a ha => ?_⟩
  · obtain ⟨p, _, rfl⟩ := List.mem_map.mp ha
    obtain ⟨q, _, rfl⟩ := List.mem_map.mp hb
    exact alike_L p q
  · obtain ⟨p, _, rfl⟩ := List.mem_map.mp ha
    exact fun z => nomatch z
theorem minD_L : ∀ (xs : List (List Int)) (x : List Int), minD (L x) (xs.map L) = L (minL x xs)
  | [], x => rfl
  | y :: ys, x => by
    have e : minD (L x) ((y :: ys).map L) = minD (if dataLt (L y) (L x) then L y else L x) (ys.map L) := rfl
    rw [e, dlt_L]
    unfold minL
    cases lexLt y x with
    | true => exact minD_L ys y
    | false => exact minD_L ys x
theorem rc_minL (x : List Int) (xs : List (List Int)) : RCD (rMinD K) [LL (x :: xs)] (L (minL x xs)) := fun G H vs e h Q q => by
  cases h with
  | cons h1 h2 =>
    cases h2
    cases h1 with
    | @lst pa xa _ ha hd =>
      refine ⟨_, xa, L x, xs.map L, rfl, Evl.sq_of (e _ _ ha), hd.dp e, alikeAll_L x xs, Nat.le_trans (depthAll_map L 1 (fun a => by rw [depth_L]; decide) (x :: xs)) (by decide), fun i v hv hi => ?_⟩
      obtain ⟨d, hd1, r⟩ := hd.get hv
      have e1 : some d = some (minD (L x) (xs.map L)) := hd1.symm.trans hi
      cases e1
      rw [minD_L] at r
      exact q _ G H (Gw.refl e) r
theorem rc_min3 (x y z : List Int) : RCD (rMin3 K) [L x, L y, L z] (L (minL x [y, z])) := fun G H vs e h Q q => by
  have h' := h
  cases h with
  | @cons v1 _ _ _ h1 h2 =>
    cases h2 with
    | @cons v2 _ _ _ h2 h3 =>
      cases h3 with
      | @cons v3 _ _ _ h3 h4 =>
        cases h4
        refine ⟨v1, v2, v3, L x, L y, L z, rfl, h'.dp e, alikeAll_L x [y, z], Nat.le_trans (depthAll_map L 1 (fun a => by rw [depth_L]; decide) [x, y, z]) (by decide), fun i v hv hi => ?_⟩
        obtain ⟨d, hd1, r⟩ := h'.get hv
        have e1 : some d = some (minD (L x) ([y, z].map L)) := hd1.symm.trans hi
        cases e1
        rw [minD_L] at r
        exact q _ G H (Gw.refl e) r
theorem rc_sortW (ws : List (Int × List Int)) (hz : ws.length ≤ 1000) : RCD (rSortD K) [LW ws] (LW (ws.mergeSort wLe)) := fun G H vs e h Q q => by
  cases h with
  | cons h1 h2 =>
    cases h2
    cases h1 with
    | @lst pa xa _ ha hd =>
      refine ⟨_, xa, Int × List Int, Wd, ws, fun x b => Dr G x (Wd b), rfl, Evl.sq_of (e _ _ ha), pair_dp (K := K) (H := H) hd, hd.dp e, PySem.W.AllAlike.of alike_W, PySem.W.Sortable.tuples fun b => ⟨_, _, rfl⟩, hz, fun b _ => by rw [depth_W]; decide, fun ys p hp hl hn => ?_⟩
      rw [dle_W] at hp
      have g := Gw.new (o := .lst ys) e hn
      exact q _ _ _ g (.lst upd_same ((pair_dr hp).mono g.gg))
theorem ed_eqL {a b : List Int} (ha : ED ta ρ (L a)) (hb : ED tb ρ (L b)) : ED (tOp (rEqD K) ta tb) ρ (.bool (a == b)) := by
  rw [← eqv_L]
  exact ed_op ha hb (rd_eqD (sh_L a) (sh_L b))
theorem ed_neL {a b : List Int} (ha : ED ta ρ (L a)) (hb : ED tb ρ (L b)) : ED (tOp (rNeD K) ta tb) ρ (.bool (!(a == b))) := by
  rw [← eqv_L]
  exact ed_op ha hb (rd_neD (sh_L a) (sh_L b))
theorem ed_neLW {a b : List (Int × List Int)} (ha : ED ta ρ (LW a)) (hb : ED tb ρ (LW b)) : ED (tOp (rNeD K) ta tb) ρ (.bool (!(a == b))) := by
  rw [← eqv_LW]
  exact ed_op ha hb (rd_neD (sh_LW a) (sh_LW b))
theorem ed_eqLW {a b : List (Int × List Int)} (ha : ED ta ρ (LW a)) (hb : ED tb ρ (LW b)) : ED (tOp (rEqD K) ta tb) ρ (.bool (a == b)) := by
  rw [← eqv_LW]
  exact ed_op ha hb (rd_eqD (sh_LW a) (sh_LW b))
end
end DL

/-! W1: words.py, the lists of a round. -/
namespace DL
open PySem L2
open Evl (Ex)
section
variable {P : Program} {w : World} {K : PySem.W.Frag} {mg : Str → Option Value} {base : Heap}
def Rturned_by (ds : List PyData) (d : PyData) : Prop := ∃ (ns : List Int) (k : Nat), k ≤ ns.length ∧ ns.length ≤ 100 ∧ ds = [L ns, .int (k : Int)] ∧ d = L (rot ns k)
abbrev spturned_by : Sp := spD Rturned_by
theorem turned_by_len (ds d) (h : Rturned_by ds d) : ds.length = 2 := by obtain ⟨ns, k, _, _, rfl, _⟩ := h; rfl
abbrev sturned_by : Stmt := top 13
abbrev nmturned_by : List Str := ["round_now", "steps"]
theorem scturned_by : FnScope nmturned_by ["round_now", "steps"] (defScope sturned_by) := ⟨rfl, rfl, rfl, by decide +kernel, rfl, by decide +kernel, by decide +kernel⟩
theorem okturned_by {k : Nat} {f : Addr} {fd : FuncData} (F : Fun K "turned_by" "turned_by" sturned_by f fd)  :
    FnOk P w K mg base CX0 (k + 1) f fd ["round_now", "steps"] spturned_by := by
  have nd := scturned_by.nd
  refine F.ok scturned_by (spD_len turned_by_len) (fun cdv A outer s H vs Q E hr h => ?_)
  refine ⟨_, (pss_one (ps_ret (pe_op op_cat (pe_slice (slK K) (pv 0) (po_some (pv 1)) po_none) (pe_slice (slK K) (pv 0) po_none (po_some (pv 1)))))), sx_def h ?_⟩
  rintro _ _ ⟨ns, k, h1, h2, rfl, rfl⟩
  have e1 : cutD (ns.map PyData.int) (some (k : Int)) none ++ cutD (ns.map PyData.int) none (some (k : Int)) = (rot ns k).map PyData.int := by
    rw [cutD_map, cutD_map, cutD_from _ _ h1, cutD_to _ _ h1, ← List.map_append]
    rfl
  refine sx_ret (d := L (rot ns k)) ?_ rfl
  rw [show L (rot ns k) = .list _ from congrArg PyData.list e1.symm]
  refine ed_op (ed_sl (ed_var rfl) (eo_some (ed_var rfl)) eo_none) (ed_sl (ed_var rfl) eo_none (eo_some (ed_var rfl))) (rd_cat ?_)
  rw [cutD_map, cutD_map, cutD_from _ _ h1, cutD_to _ _ h1, List.length_map, List.length_map, List.length_drop, List.length_take]
  omega
def Rshifts_of (ds : List PyData) (d : PyData) : Prop := ∃ (ns : List Int), ns.length ≤ 100 ∧ ds = [L ns] ∧ d = LL (shifts ns)
abbrev spshifts_of : Sp := spD Rshifts_of
theorem shifts_of_len (ds d) (h : Rshifts_of ds d) : ds.length = 1 := by obtain ⟨ns, _, rfl, _⟩ := h; rfl
theorem rng_filter {α : Type} (n : Nat) (f : Nat → α) : ((List.range n).filter (fun _ => true)).map f = (List.range n).map f := by
  rw [List.filter_eq_self.mpr (fun _ _ => rfl)]
abbrev sshifts_of : Stmt := top 14
abbrev nmshifts_of : List Str := ["numbers", "found", "steps"]
theorem scshifts_of : FnScope nmshifts_of ["numbers"] (defScope sshifts_of) := ⟨rfl, rfl, rfl, by decide +kernel, rfl, by decide +kernel, by decide +kernel⟩
theorem okshifts_of {k : Nat} {f : Addr} {fd : FuncData} (F : Fun K "shifts_of" "shifts_of" sshifts_of f fd) (c_turned_by : Cal P w K mg base k "turned_by" ["round_now", "steps"] spturned_by) (m_range : mg "range" = none) (m_len : mg "len" = none) :
    FnOk P w K mg base CX0 (k + 1) f fd ["numbers"] spshifts_of := by
  have nd := scshifts_of.nd
  obtain ⟨f_turned_by, fd_turned_by, G_turned_by, g_turned_by, k_turned_by, b_turned_by⟩ := c_turned_by.ex
  refine F.ok scshifts_of (spD_len shifts_of_len) (fun cdv A outer s H vs Q E hr h => ?_)
  refine ⟨_, (pss_cons (ps_if (pt_cmpR op_lt (pe_callB (lenK K) (by rfl) m_len (by decide +kernel) (pa_cons (pv 0) pa_nil)) pe_int (nomark _)) (pss_one (ps_ret (pe_ifExp (pt_cmpR (eqK K hr.units) (pe_callB (lenK K) (by rfl) m_len (by decide +kernel) (pa_cons (pv 0) pa_nil)) pe_int (nomark _)) (pe_lst (pa_cons (pv 0) (pa_cons (revK K (pv 0)) pa_nil))) (pe_lst (pa_cons (pv 0) pa_nil))))) pss_nil)
      (pss_cons (ps_setLc (i := 1) (own := [("steps", 2)]) rfl nd rfl rfl (sw_true rfl rfl rfl (by decide +kernel)) (pi_range1 (by rfl) m_range (pa_cons (pe_callB (lenK K) (by rfl) m_len (by decide +kernel) (pa_cons (pv 0) pa_nil)) pa_nil)) (blkOk_by (own := [("steps", 2)]) (N := nmshifts_of) (sc := defScope sshifts_of) (by decide +kernel)) (fun _ _ _ _ _ => (pg_name (i := 2) nd rfl (Or.inl rfl))) (fun _ _ _ _ _ => pts_nil) (fun _ _ _ _ _ => (pe_call G_turned_by hr (by rfl) g_turned_by k_turned_by b_turned_by .nil pass0 (pa_cons (pv 0) (pa_cons (pv 2) pa_nil)))))
      (pss_one (ps_ret (pe_op op_cat (pv 1) (pe_lc (own := [("steps", 2)]) rfl nd (pi_range1 (by rfl) m_range (pa_cons (pe_callB (lenK K) (by rfl) m_len (by decide +kernel) (pa_cons (pv 0) pa_nil)) pa_nil)) (blkOk_by (own := [("steps", 2)]) (N := nmshifts_of) (sc := defScope sshifts_of) (by decide +kernel)) (fun _ _ _ _ _ => (pg_name (i := 2) nd rfl (Or.inl rfl))) (fun _ _ _ _ _ => pts_nil) (fun _ _ _ _ _ => (pe_call G_turned_by hr (by rfl) g_turned_by k_turned_by b_turned_by .nil pass0 (pa_cons (revK K (pv 0)) (pa_cons (pv 2) pa_nil)))))))))), sx_def h ?_⟩
  rintro _ _ ⟨ns, h2, rfl, rfl⟩
  have hl : (ns.map PyData.int).length = ns.length := List.length_map _
  refine q_ifRet (et_test (ed_lt (ed_len (ed_var rfl) hl) (ed_int 3))) (fun c => ?_) (fun c => ?_)
  · have c : ns.length < 3 := by have := of_decide_eq_true c; omega
    refine sx_ret (d := LL (shifts ns)) (ed_if (et_test (ed_eqI (ed_len (ed_var rfl) hl) (ed_int 2))) (fun b => ?_) (fun b => ?_)) rfl
    · have b : ns.length = 2 := by have := beq_iff_eq.mp b; omega
      rw [show shifts ns = [ns, ns.reverse] by unfold shifts; rw [if_pos c, if_pos b]]
      refine ed_lst (ea_cons (ed_var rfl) (ea_cons (ed_is (ed_rev (ed_var rfl)) ?_) ea_nil)) (by show 2 ≤ 100000; decide)
      show PyData.list _ = PyData.list _
      rw [List.map_reverse]
    · have b : ¬ ns.length = 2 := by have := beq_eq_false_iff_ne.mp b; omega
      rw [show shifts ns = [ns] by unfold shifts; rw [if_pos c, if_neg b]]
      exact ed_lst (ea_cons (ed_var rfl) ea_nil) (by show 1 ≤ 100000; decide)
  · have c : ¬ ns.length < 3 := by have := of_decide_eq_false c; omega
    have e : shifts ns = (List.range ns.length).map (fun k => rot ns k) ++ (List.range ns.length).map (fun k => rot ns.reverse k) := by unfold shifts; rw [if_neg c]
    refine q_asg (ed_lcR (n := (ns.length : Int)) (fun _ => true) (fun k => L (rot ns k)) (ea_cons (ed_len (ed_var rfl) hl) ea_nil) (by omega) (by decide) (fun _ _ => et_yes) (fun i hi _ => ?_)) trivial ?_
    · exact ed_call0 (ea_cons (ed_var rfl) (ea_cons (ed_var rfl) ea_nil)) ⟨ns, i, by omega, h2, rfl, rfl⟩
    · refine sx_ret (d := LL (shifts ns)) ?_ rfl
      have e2 : LL (shifts ns) = .list (((List.range (ns.length : Int).toNat).filter fun _ => true).map (fun k => L (rot ns k)) ++ ((List.range (ns.length : Int).toNat).filter fun _ => true).map (fun k => L (rot ns.reverse k))) := by
        rw [e, rng_filter, rng_filter]
        show PyData.list _ = _
        rw [List.map_append, List.map_map, List.map_map]
        rfl
      rw [e2]
      refine ed_op (ed_var rfl) (ed_lcR (n := (ns.length : Int)) (fun _ => true) (fun k => L (rot ns.reverse k)) (ea_cons (ed_len (ed_var rfl) hl) ea_nil) (by omega) (by decide) (fun _ _ => et_yes) (fun i hi _ => ?_)) (rd_cat ?_)
      · refine ed_call0 (ea_cons (ed_is (ed_rev (ed_var rfl)) ?_) (ea_cons (ed_var rfl) ea_nil)) ⟨ns.reverse, i, by rw [List.length_reverse]; omega, by rw [List.length_reverse]; exact h2, rfl, rfl⟩
        show PyData.list _ = PyData.list _
        rw [List.map_reverse]
      · rw [rng_filter, rng_filter, List.length_map, List.length_map, List.length_range]
        omega
def Rcan_merge (ds : List PyData) (d : PyData) : Prop := ∃ (ns : List Int) (p : Nat), p < ns.length ∧ ns.length ≤ 100 ∧ ds = [L ns, .int (p : Int)] ∧ d = .bool (canMerge ns p)
abbrev spcan_merge : Sp := spD Rcan_merge
theorem can_merge_len (ds d) (h : Rcan_merge ds d) : ds.length = 2 := by obtain ⟨ns, k, _, _, rfl, _⟩ := h; rfl
abbrev scan_merge : Stmt := top 16
abbrev nmcan_merge : List Str := ["lengths", "place", "half", "most", "here", "later", "against", "behind"]
theorem sccan_merge : FnScope nmcan_merge ["lengths", "place"] (defScope scan_merge) := ⟨rfl, rfl, rfl, by decide +kernel, rfl, by decide +kernel, by decide +kernel⟩
theorem okcan_merge {k : Nat} {f : Addr} {fd : FuncData} (F : Fun K "can_merge" "can_merge" scan_merge f fd) (m_len : mg "len" = none) :
    FnOk P w K mg base CX0 (k + 1) f fd ["lengths", "place"] spcan_merge := by
  have nd := sccan_merge.nd
  refine F.ok sccan_merge (spD_len can_merge_len) (fun cdv A outer s H vs Q E hr h => ?_)
  refine ⟨_, (pss_cons (ps_par (i := 2) (j := 3) (by rfl) nd rfl rfl (by decide) rfl rfl (pa_cons (pe_op op_fdivN (pe_callB (lenK K) (by rfl) m_len (by decide +kernel) (pa_cons (pv 0) pa_nil)) pe_int) (pa_cons (pe_callB (lenK K) (by rfl) m_len (by decide +kernel) (pa_cons (pv 0) pa_nil)) pa_nil)) (by rfl))
      (pss_cons (ps_par (i := 4) (j := 5) (by rfl) nd rfl rfl (by decide) rfl rfl (pa_cons (pe_ix (ixLK K) (pv 0) (pv 1) (fun _ _ => rfl)) (pa_cons (pe_ix (ixLK K) (pv 0) (pe_op op_modN (pe_op op_add (pv 1) pe_int) (pv 3)) (fun _ _ => rfl)) pa_nil)) (by rfl))
      (pss_cons (ps_par (i := 6) (j := 7) (by rfl) nd rfl rfl (by decide) rfl rfl (pa_cons (pe_ix (ixLK K) (pv 0) (pe_op op_modN (pe_op op_add (pv 1) (pv 2)) (pv 3)) (fun _ _ => rfl)) (pa_cons (pe_ix (ixLK K) (pv 0) (pe_op op_modN (pe_op op_add (pe_op op_add (pv 1) (pv 2)) pe_int) (pv 3)) (fun _ _ => rfl)) pa_nil)) (by rfl))
      (pss_one (ps_ret (pe_and (pe_cmpR op_gt (pv 4) pe_int (nomark _)) (pe_and (pe_cmpR op_gt (pv 5) pe_int (nomark _)) (pe_and (pe_cmpR (eqK K hr.units) (pv 6) pe_int (nomark _)) (pe_one (pe_cmpR (eqK K hr.units) (pv 7) pe_int (nomark _))))))))))), sx_def h ?_⟩
  rintro _ _ ⟨ns, p, h1, h2, rfl, rfl⟩
  have hl : (ns.map PyData.int).length = ns.length := List.length_map _
  have h0 : ns.length ≠ 0 := by omega
  have md : ∀ k, k % ns.length < ns.length := fun k => Nat.mod_lt _ (by omega)
  refine q_par (ea_cons (ed_half ns.length (ed_len (ed_var rfl) hl) rfl) (ea_cons (ed_len (ed_var rfl) hl) ea_nil)) trivial trivial ?_
  refine q_par (ea_cons (ed_at p (ed_var rfl) (ed_var rfl) rfl h1) (ea_cons (ed_at _ (ed_var rfl) (ed_mod (p + 1) ns.length (ed_add (ed_var rfl) (ed_int 1) rfl) (ed_var rfl) (by omega) rfl h0) rfl (md _)) ea_nil)) trivial trivial ?_
  refine q_par (ea_cons (ed_at _ (ed_var rfl) (ed_mod (p + ns.length / 2) ns.length (ed_add (ed_var rfl) (ed_var rfl) rfl) (ed_var rfl) (by omega) rfl h0) rfl (md _))
    (ea_cons (ed_at _ (ed_var rfl) (ed_mod (p + ns.length / 2 + 1) ns.length (ed_add (ed_add (ed_var rfl) (ed_var rfl) rfl) (ed_int 1) rfl) (ed_var rfl) (by omega) rfl h0) rfl (md _)) ea_nil)) trivial trivial ?_
  exact sx_ret (ed_andV (ed_gt (ed_var rfl) (ed_int 0)) fun _ => ed_andV (ed_gt (ed_var rfl) (ed_int 0)) fun _ => ed_andV (ed_eqI (ed_var rfl) (ed_int 0)) fun _ => ed_eqI (ed_var rfl) (ed_int 0)) rfl
def optD : Option Nat → PyData
  | some p => .int (p : Int)
  | none => .none
def Rmergeable (ds : List PyData) (d : PyData) : Prop := ∃ (ns : List Int), ns.length ≤ 100 ∧ ds = [L ns] ∧ d = optD (mergeable ns)
abbrev spmergeable : Sp := spD Rmergeable
theorem mergeable_len (ds d) (h : Rmergeable ds d) : ds.length = 1 := by obtain ⟨ns, _, rfl, _⟩ := h; rfl
theorem find_at {n i : Nat} {f : Nat → Bool} (hi : i < n) (h : f i = true) (h0 : ∀ j, j < i → f j = false) : (List.range n).find? f = some i := by
  rw [List.find?_range_eq_some]
  exact ⟨h, by simpa using hi, fun j hj => by rw [h0 j hj]; rfl⟩
theorem find_no {n : Nat} {f : Nat → Bool} (h0 : ∀ j, j < n → f j = false) : (List.range n).find? f = none := by
  rw [List.find?_range_eq_none]
  intro j hj
  rw [h0 j hj]; rfl
abbrev smergeable : Stmt := top 17
abbrev nmmergeable : List Str := ["lengths", "place"]
theorem scmergeable : FnScope nmmergeable ["lengths"] (defScope smergeable) := ⟨rfl, rfl, rfl, by decide +kernel, rfl, by decide +kernel, by decide +kernel⟩
theorem okmergeable {k : Nat} {f : Addr} {fd : FuncData} (F : Fun K "mergeable" "mergeable" smergeable f fd) (c_can_merge : Cal P w K mg base k "can_merge" ["lengths", "place"] spcan_merge) (m_range : mg "range" = none) (m_len : mg "len" = none) :
    FnOk P w K mg base CX0 (k + 1) f fd ["lengths"] spmergeable := by
  have nd := scmergeable.nd
  obtain ⟨f_can_merge, fd_can_merge, G_can_merge, g_can_merge, k_can_merge, b_can_merge⟩ := c_can_merge.ex
  refine F.ok scmergeable (spD_len mergeable_len) (fun cdv A outer s H vs Q E hr h => ?_)
  refine ⟨_, (pss_cons (ps_for PassesOwn.never rfl (pi_range1 (by rfl) m_range (pa_cons (pe_callB (lenK K) (by rfl) m_len (by decide +kernel) (pa_cons (pv 0) pa_nil)) pa_nil)) (pg_name (i := 1) nd rfl (Or.inl rfl)) (pss_one (ps_if (pt_val (pe_call G_can_merge hr (by rfl) g_can_merge k_can_merge b_can_merge .nil pass0 (pa_cons (pv 0) (pa_cons (pv 1) pa_nil)))) (pss_one (ps_ret (pv 1))) pss_nil)))
      (pss_one (ps_ret pe_non))), sx_def h ?_⟩
  rintro _ _ ⟨ns, h2, rfl, rfl⟩
  have hl : (ns.map PyData.int).length = ns.length := List.length_map _
  refine sx_seq (sx_forR (n := (ns.length : Int)) (fun i ρ' o' => (∃ x, ρ' = [some (L ns), x]) ∧ o' = none ∧ ∀ j, j < i → canMerge ns j = false) (ea_cons (ed_len (ed_var rfl) hl) ea_nil) (by omega) ⟨⟨none, rfl⟩, rfl, fun j hj => absurd hj (by omega)⟩ (fun _ _ _ p => by rw [p.2.1]; trivial) (fun i ρ' o' hi p => ?_) (fun ρ' o' p => p)) (fun ρ' o' p => ?_)
  · obtain ⟨⟨x, rfl⟩, rfl, p⟩ := p
    refine sx_if (b := canMerge ns i) (et_B (ed_call0 (ea_cons (ed_var rfl) (ea_cons (ed_var rfl) ea_nil)) ⟨ns, i, by omega, h2, rfl, rfl⟩)) (fun b => ?_) (fun b => ?_)
    · refine sx_ret (ed_var rfl) ?_
      show PyData.int (i : Int) = optD (mergeable ns)
      rw [show mergeable ns = some i from find_at (by omega) b p]
      rfl
    · refine sx_next ⟨⟨_, rfl⟩, rfl, fun j hj => ?_⟩
      by_cases q : j = i
      · rw [q]; exact b
      · exact p j (by omega)
  · obtain ⟨⟨x, rfl⟩, rfl, p⟩ := p
    refine sx_ret ed_non ?_
    show PyData.none = optD (mergeable ns)
    rw [show mergeable ns = none from find_no fun j hj => p j (by omega)]
    rfl
def Ris_round (ds : List PyData) (d : PyData) : Prop := ∃ (ns : List Int), 2 ≤ ns.length ∧ ns.length ≤ 100 ∧ ds = [L ns] ∧ d = .bool (isRound ns)
abbrev spis_round : Sp := spD Ris_round
theorem is_round_len (ds d) (h : Ris_round ds d) : ds.length = 1 := by obtain ⟨ns, _, _, rfl, _⟩ := h; rfl
abbrev sis_round : Stmt := top 18
abbrev nmis_round : List Str := ["numbers", "half", "twice", "at"]
theorem scis_round : FnScope nmis_round ["numbers"] (defScope sis_round) := ⟨rfl, rfl, rfl, by decide +kernel, rfl, by decide +kernel, by decide +kernel⟩
theorem okis_round {k : Nat} {f : Addr} {fd : FuncData} (F : Fun K "is_round" "is_round" sis_round f fd) (c_mergeable : Cal P w K mg base k "mergeable" ["lengths"] spmergeable) (m_all : mg "all" = none) (m_range : mg "range" = none) (m_len : mg "len" = none) (m_sum : mg "sum" = none) (m_any : mg "any" = none) :
    FnOk P w K mg base CX0 (k + 1) f fd ["numbers"] spis_round := by
  have nd := scis_round.nd
  obtain ⟨f_mergeable, fd_mergeable, G_mergeable, g_mergeable, k_mergeable, b_mergeable⟩ := c_mergeable.ex
  refine F.ok scis_round (spD_len is_round_len) (fun cdv A outer s H vs Q E hr h => ?_)
  refine ⟨_, (pss_cons (ps_set (i := 1) nd rfl (Or.inr rfl) (pe_op op_fdivN (pe_callB (lenK K) (by rfl) m_len (by decide +kernel) (pa_cons (pv 0) pa_nil)) pe_int))
      (pss_cons (ps_if (pt_val (pe_callB (anyK K rfl) (by rfl) m_any (by decide +kernel) (pa_cons (pe_lc (own := [("at", 3)]) rfl nd (pi_range1 (by rfl) m_range (pa_cons (pv 1) pa_nil)) (blkOk_by (own := [("at", 3)]) (N := nmis_round) (sc := defScope sis_round) (by decide +kernel)) (fun _ _ _ _ _ => (pg_name (i := 3) nd rfl (Or.inl rfl))) (fun _ _ _ _ _ => pts_nil) (fun _ _ _ _ _ => (pe_and (pe_cmpR (eqK K hr.units) (pe_ix (ixLK K) (pv 0) (pv 3) (fun _ _ => rfl)) pe_int (nomark _)) (pe_one (pe_cmpR (eqK K hr.units) (pe_ix (ixLK K) (pv 0) (pe_op op_add (pv 3) (pv 1)) (fun _ _ => rfl)) pe_int (nomark _)))))) pa_nil))) (pss_one (ps_ret pe_bl)) pss_nil)
      (pss_cons (ps_if (pt_cmpR op_notN (pe_call G_mergeable hr (by rfl) g_mergeable k_mergeable b_mergeable .nil pass0 (pa_cons (pv 0) pa_nil)) pe_non (nomark _)) (pss_one (ps_ret pe_bl)) pss_nil)
      (pss_cons (ps_set (i := 2) nd rfl (Or.inr rfl) (pe_op op_cat (pv 0) (pv 0)))
      (pss_one (ps_ret (pe_callB (allK K rfl) (by rfl) m_all (by decide +kernel) (pa_cons (pe_lc (own := [("at", 3)]) rfl nd (pi_range1 (by rfl) m_range (pa_cons (pe_callB (lenK K) (by rfl) m_len (by decide +kernel) (pa_cons (pv 0) pa_nil)) pa_nil)) (blkOk_by (own := [("at", 3)]) (N := nmis_round) (sc := defScope sis_round) (by decide +kernel)) (fun _ _ _ _ _ => (pg_name (i := 3) nd rfl (Or.inl rfl))) (fun _ _ _ _ _ => pts_nil) (fun _ _ _ _ _ => (pe_cmpR op_ge (pe_callB (sumK K rfl) (by rfl) m_sum (by decide +kernel) (pa_cons (pe_slice (slK K) (pv 2) (po_some (pv 3)) (po_some (pe_op op_sub (pe_op op_add (pv 3) (pv 1)) pe_int))) pa_nil)) pe_int (nomark _)))) pa_nil)))))))), sx_def h ?_⟩
  rintro _ _ ⟨ns, h1, h2, rfl, rfl⟩
  have hl : (ns.map PyData.int).length = ns.length := List.length_map _
  refine q_asg (ed_half ns.length (ed_len (ed_var rfl) hl) rfl) trivial ?_
  refine q_ifRet (et_B (ed_cb (ea_cons (ed_lcRb (n := ns.length / 2) (fun a => (at_ ns a == 0) && (at_ ns (a + ns.length / 2) == 0)) (ea_cons (ed_var rfl) ea_nil) (by omega) (by decide) (fun i hi => ?_)) ea_nil) rc_any)) (fun b => ?_) (fun b => ?_)
  · exact ed_andV (ed_eqI (ed_at i (ed_var rfl) (ed_var rfl) rfl (by omega)) (ed_int 0)) fun _ => ed_eqI (ed_at (i + ns.length / 2) (ed_var rfl) (ed_add (ed_var rfl) (ed_var rfl) rfl) (by omega) (by omega)) (ed_int 0)
  · refine sx_ret (ed_bl false) ?_
    rw [List.any_map] at b
    show PyData.bool false = PyData.bool (isRound ns)
    have b2 : (List.range (ns.length / 2)).any (fun a => (at_ ns a == 0) && (at_ ns (a + ns.length / 2) == 0)) = true := b
    unfold isRound
    rw [if_pos b2]
  · rw [List.any_map] at b
    have b' : ¬ (List.range (ns.length / 2)).any (fun a => (at_ ns a == 0) && (at_ ns (a + ns.length / 2) == 0)) = true := fun z => by
      rw [show ((List.range (ns.length / 2)).any (id ∘ fun a => (at_ ns a == 0) && (at_ ns (a + ns.length / 2) == 0))) = (List.range (ns.length / 2)).any (fun a => (at_ ns a == 0) && (at_ ns (a + ns.length / 2) == 0)) from rfl, z] at b
      cases b
    refine q_ifRet (b := (mergeable ns).isSome) (et_test (ed_op (ed_call0 (ea_cons (ed_var rfl) ea_nil) ⟨ns, h2, rfl, rfl⟩) ed_non (rd_notN (by cases mergeable ns <;> rfl)))) (fun c => ?_) (fun c => ?_)
    · refine sx_ret (ed_bl false) ?_
      show PyData.bool false = PyData.bool (isRound ns)
      unfold isRound
      rw [if_neg b', if_pos c]
    · have c' : ¬ (mergeable ns).isSome = true := fun z => by rw [z] at c; cases c
      have e2 : (L ns) = L ns := rfl
      refine q_asg (d := L (ns ++ ns)) (ed_is (ed_op (ed_var rfl) (ed_var rfl) (rd_cat (by rw [hl]; omega))) (by show PyData.list _ = PyData.list _; rw [List.map_append])) trivial ?_
      refine sx_ret (d := .bool (isRound ns)) (ed_is (ed_cb (ea_cons (ed_lcRb (n := ns.length) (fun a => decide (2 ≤ (((ns ++ ns).drop a).take (ns.length / 2 - 1)).sum)) (ea_cons (ed_len (ed_var rfl) hl) ea_nil) (by omega) (by decide) (fun i hi => ?_)) ea_nil) rc_all) ?_) rfl
      · refine ed_ge (ed_cb (ea_cons (ed_is (ed_sl (lo := some (i : Int)) (hi := some ((i + (ns.length / 2 - 1) : Nat) : Int)) (ed_var rfl) (eo_some (ed_var rfl)) (eo_some (ed_sub (ed_add (ed_var rfl) (ed_var rfl) rfl) (ed_int 1) ?_))) ?_) ea_nil) rc_sum) (ed_int 2)
        · omega
        · rw [cutD_map, cutD_mid _ _ _ (by omega) (by rw [List.length_append]; omega)]
          show L _ = L _
          rw [show i + (ns.length / 2 - 1) - i = ns.length / 2 - 1 by omega]
      · rw [List.all_map]
        unfold isRound
        rw [if_neg b', if_neg c']
        rfl
end
end DL

/-! MirL: listing.py as plain functions. -/
namespace DL
open PySem L2
def mayFollow (ps : List (Int × Int)) (near far total : Int) : Bool :=
  match ps.getLast? with
  | none => (near == 0) || (decide (near ≤ far) && decide (near * 4 ≤ total))
  | some (a, b) => if ((near == 0) && (a == 0)) || ((far == 0) && (b == 0)) then false else decide ((ps.headD (0, 0)).1 ≤ (if far < near then far else near))
def lpIn (g : List (Int × Int) → Nat → List (List (Int × Int))) (ps : List (Int × Int)) (left total i near : Nat) : List (List (Int × Int)) :=
  if mayFollow ps (near : Int) ((i + 1 - near : Nat) : Int) (total : Int) then g (ps ++ [((near : Int), ((i + 1 - near : Nat) : Int))]) (left - (i + 1)) else []
def lp : Nat → List (Int × Int) → Nat → Nat → Nat → List (List (Int × Int))
  | 0, _, _, _, _ => []
  | f + 1, ps, half, left, total =>
    if half - ps.length = 0 then (if left = 0 then [ps] else [])
    else (List.range (left + 1 - (half - ps.length))).flatMap fun i => (List.range (i + 2)).flatMap fun near => lpIn (fun qs l => lp f qs half l total) ps left total i near
def isLeast (ns : List Int) : Bool := (shifts ns).all fun o => !lexLt o ns
def numsOf (ps : List (Int × Int)) : List Int := ps.map (·.1) ++ ps.map (·.2)
def good (ns : List Int) : Bool := isRound ns && isLeast ns
def roundsOf (total : Nat) : List (List Int) := (List.range (total - 1)).flatMap fun i => ((lp 10 [] (i + 2) total total).map numsOf).filter good
def listsOf (total : Nat) (ex : Nat) : List (List Int) :=
  if ex = 1 then (List.range (total / 2 - 1)).map fun i => [((i + 2 : Nat) : Int), ((total - (i + 2) : Nat) : Int)] else roundsOf total
def allFound (many ex : Nat) : List (Int × List Int) := (List.range many).flatMap fun p => (listsOf (many - p) ex).map fun ns => ((p : Int), ns)
def allWords (many ex : Nat) : List (Int × List Int) := if ex = 0 then [((many : Int), [])] else (allFound many ex).mergeSort wLe

/-! lengths -/
theorem lp_len : ∀ (f : Nat) (ps : List (Int × Int)) (half left total : Nat), ps.length ≤ half → ∀ qs ∈ lp f ps half left total, qs.length = half
  | 0, _, _, _, _, _, qs, h => by simp [lp] at h
  | f + 1, ps, half, left, total, hl, qs, h => by
    unfold lp at h
    by_cases h0 : half - ps.length = 0
    · rw [if_pos h0] at h
      by_cases h1 : left = 0
      · rw [if_pos h1, List.mem_singleton] at h
        subst h
        omega
      · rw [if_neg h1] at h
        simp at h
    · rw [if_neg h0] at h
      obtain ⟨i, _, h⟩ := List.mem_flatMap.mp h
      obtain ⟨near, _, h⟩ := List.mem_flatMap.mp h
      unfold lpIn at h
      split at h
      · exact lp_len f _ half _ total (by rw [List.length_append, List.length_singleton]; omega) qs h
      · simp at h
theorem part_le {α β : Type} (g : α → List β) : ∀ (l : List α) (x : α), x ∈ l → (g x).length ≤ (l.flatMap g).length
  | [], x, h => by simp at h
  | y :: l, x, h => by
    rw [List.flatMap_cons, List.length_append]
    rcases List.mem_cons.mp h with e | e
    · subst e; omega
    · have := part_le g l x e; omega
theorem pre_le {β : Type} (g : Nat → List β) (n i : Nat) (h : i < n) : ((List.range i).flatMap g).length + (g i).length ≤ ((List.range n).flatMap g).length := by
  induction n with
  | zero => omega
  | succ n ih =>
    rw [List.range_succ, List.flatMap_append, List.length_append]
    by_cases q : i = n
    · subst q
      simp
    · have := ih (by omega)
      omega
theorem fm_succ {β : Type} (g : Nat → List β) (i : Nat) : (List.range (i + 1)).flatMap g = (List.range i).flatMap g ++ g i := by
  rw [List.range_succ, List.flatMap_append]
  simp
theorem fm_le {β : Type} (g : Nat → List β) (n m : Nat) (h : ∀ i, i < n → (g i).length ≤ m) : ((List.range n).flatMap g).length ≤ n * m := by
  induction n with
  | zero => simp
  | succ n ih =>
    rw [fm_succ, List.length_append]
    have h1 := ih fun i hi => h i (by omega)
    have h2 := h n (by omega)
    rw [Nat.succ_mul]
    omega
theorem lp_small : ∀ t, t < 8 → ∀ h, h < 8 → (lp 10 [] h t t).length ≤ 600 := by decide +kernel
theorem rounds_small : ∀ t, t < 8 → (roundsOf t).length ≤ 100 := by decide +kernel
theorem lists_small1 : ∀ t, t < 10 → (listsOf t 1).length ≤ 100 := by decide +kernel
theorem lists_small (t ex : Nat) (h : t < 10) (he : ex = 1 ∨ (ex = 2 ∧ t ≤ 7)) : (listsOf t ex).length ≤ 100 := by
  rcases he with rfl | ⟨rfl, h7⟩
  · exact lists_small1 t h
  · show (roundsOf t).length ≤ 100
    exact rounds_small t (by omega)
theorem shifts_len (ns : List Int) (h : ns.length ≤ 100) : (shifts ns).length ≤ 200 := by
  unfold shifts
  by_cases h3 : ns.length < 3
  · rw [if_pos h3]
    by_cases h2 : ns.length = 2
    · rw [if_pos h2]; show 2 ≤ 200; decide
    · rw [if_neg h2]; show 1 ≤ 200; decide
  · rw [if_neg h3, List.length_append, List.length_map, List.length_map, List.length_range]
    omega
theorem nums_len (ps : List (Int × Int)) : (numsOf ps).length = 2 * ps.length := by
  unfold numsOf
  rw [List.length_append, List.length_map, List.length_map]
  omega
end DL

/-! W2: basics.py; words.py, what is a word. -/
namespace DL
open PySem L2
open Evl (Ex)
section
variable {P : Program} {w : World} {K : PySem.W.Frag} {mg : Str → Option Value} {base : Heap}
def Rleast_list (ds : List PyData) (d : PyData) : Prop := ∃ (ns : List Int), 1 ≤ ns.length ∧ ns.length ≤ 100 ∧ ds = [L ns] ∧ d = L (least ns)
abbrev spleast_list : Sp := spD Rleast_list
theorem least_list_len (ds d) (h : Rleast_list ds d) : ds.length = 1 := by obtain ⟨ns, _, _, rfl, _⟩ := h; rfl
theorem shifts_cons (ns : List Int) (h : 1 ≤ ns.length) : ∃ x r, shifts ns = x :: r := by
  unfold shifts
  by_cases h3 : ns.length < 3
  · rw [if_pos h3]
    by_cases h2 : ns.length = 2
    · rw [if_pos h2]; exact ⟨_, _, rfl⟩
    · rw [if_neg h2]; exact ⟨_, _, rfl⟩
  · rw [if_neg h3]
    obtain ⟨m, hm⟩ : ∃ m, ns.length = m + 1 := ⟨ns.length - 1, by omega⟩
    rw [hm, List.range_succ_eq_map, List.map_cons, List.cons_append]
    exact ⟨_, _, rfl⟩
abbrev sleast_list : Stmt := top 15
abbrev nmleast_list : List Str := ["numbers"]
theorem scleast_list : FnScope nmleast_list ["numbers"] (defScope sleast_list) := ⟨rfl, rfl, rfl, by decide +kernel, rfl, by decide +kernel, by decide +kernel⟩
theorem okleast_list {k : Nat} {f : Addr} {fd : FuncData} (F : Fun K "least_list" "least_list" sleast_list f fd) (c_shifts_of : Cal P w K mg base k "shifts_of" ["numbers"] spshifts_of) (m_min : mg "min" = none) :
    FnOk P w K mg base CX0 (k + 1) f fd ["numbers"] spleast_list := by
  have nd := scleast_list.nd
  obtain ⟨f_shifts_of, fd_shifts_of, G_shifts_of, g_shifts_of, k_shifts_of, b_shifts_of⟩ := c_shifts_of.ex
  refine F.ok scleast_list (spD_len least_list_len) (fun cdv A outer s H vs Q E hr h => ?_)
  refine ⟨_, (pss_one (ps_ret (pe_callB (minK K rfl hr.units) (by rfl) m_min (by decide +kernel) (pa_cons (pe_call G_shifts_of hr (by rfl) g_shifts_of k_shifts_of b_shifts_of .nil pass0 (pa_cons (pv 0) pa_nil)) pa_nil)))), sx_def h ?_⟩
  rintro _ _ ⟨ns, h1, h2, rfl, rfl⟩
  obtain ⟨x, r, e⟩ := shifts_cons ns h1
  refine sx_ret (d := L (least ns)) ?_ rfl
  rw [show least ns = minL x r by unfold least; rw [e]]
  exact ed_cb (ea_cons (ed_call0 (ea_cons (ed_var rfl) ea_nil) ⟨ns, h2, rfl, by rw [e]⟩) ea_nil) (rc_minL x r)
def Ris_integer (ds : List PyData) (d : PyData) : Prop := ∃ (n : Int), ds = [.int n] ∧ d = .bool true
abbrev spis_integer : Sp := spD Ris_integer
theorem is_integer_len (ds d) (h : Ris_integer ds d) : ds.length = 1 := by obtain ⟨ns, rfl, _⟩ := h; rfl
theorem kit_ii : kitB (tyD (.int n)) "int" = some true := by show kitB "int" "int" = some true; decide +kernel
theorem kit_ib : kitB (tyD (.int n)) "bool" = some false := by show kitB "int" "bool" = some false; decide +kernel
theorem kit_ll : kitB "list" "list" = some true := by decide +kernel
theorem kit_lt : kitB "list" "tuple" = some false := by decide +kernel
theorem kit_tt : kitB "tuple" "tuple" = some true := by decide +kernel
abbrev sis_integer : Stmt := top 6
abbrev nmis_integer : List Str := ["value"]
theorem scis_integer : FnScope nmis_integer ["value"] (defScope sis_integer) := ⟨rfl, rfl, rfl, by decide +kernel, rfl, by decide +kernel, by decide +kernel⟩
theorem okis_integer {k : Nat} {f : Addr} {fd : FuncData} (F : Fun K "is_integer" "is_integer" sis_integer f fd) (m_isinstance : mg "isinstance" = none) (m_bool : mg "bool" = none) (m_int : mg "int" = none) :
    FnOk P w K mg base CX0 (k + 1) f fd ["value"] spis_integer := by
  have nd := scis_integer.nd
  refine F.ok scis_integer (spD_len is_integer_len) (fun cdv A outer s H vs Q E hr h => ?_)
  refine ⟨_, (pss_one (ps_ret (pe_and (pe_callB (isiK K) (by rfl) m_isinstance (by decide +kernel) (pa_cons (pv 0) (pa_cons (pe_bltn (v := .ty "int") (by rfl) m_int (by decide +kernel) rfl) pa_nil))) (pe_one (pe_not (pe_callB (isiK K) (by rfl) m_isinstance (by decide +kernel) (pa_cons (pv 0) (pa_cons (pe_bltn (v := .ty "bool") (by rfl) m_bool (by decide +kernel) rfl) pa_nil)))))))), sx_def h ?_⟩
  rintro _ _ ⟨n, rfl, rfl⟩
  exact sx_ret (ed_andV (ed_isi (ed_var rfl) kit_ii) fun _ => ed_notV (ed_isi (ed_var rfl) kit_ib)) rfl
def Ris_count (ds : List PyData) (d : PyData) : Prop := ∃ (n : Int), ds = [.int n] ∧ d = .bool (decide (0 ≤ n))
abbrev spis_count : Sp := spD Ris_count
theorem is_count_len (ds d) (h : Ris_count ds d) : ds.length = 1 := by obtain ⟨ns, rfl, _⟩ := h; rfl
abbrev sis_count : Stmt := top 7
abbrev nmis_count : List Str := ["value"]
theorem scis_count : FnScope nmis_count ["value"] (defScope sis_count) := ⟨rfl, rfl, rfl, by decide +kernel, rfl, by decide +kernel, by decide +kernel⟩
theorem okis_count {k : Nat} {f : Addr} {fd : FuncData} (F : Fun K "is_count" "is_count" sis_count f fd) (c_is_integer : Cal P w K mg base k "is_integer" ["value"] spis_integer) :
    FnOk P w K mg base CX0 (k + 1) f fd ["value"] spis_count := by
  have nd := scis_count.nd
  obtain ⟨f_is_integer, fd_is_integer, G_is_integer, g_is_integer, k_is_integer, b_is_integer⟩ := c_is_integer.ex
  refine F.ok scis_count (spD_len is_count_len) (fun cdv A outer s H vs Q E hr h => ?_)
  refine ⟨_, (pss_one (ps_ret (pe_and (pe_call G_is_integer hr (by rfl) g_is_integer k_is_integer b_is_integer .nil pass0 (pa_cons (pv 0) pa_nil)) (pe_one (pe_cmpR op_ge (pv 0) pe_int (nomark _)))))), sx_def h ?_⟩
  rintro _ _ ⟨n, rfl, rfl⟩
  exact sx_ret (ed_andV (ed_call0 (ea_cons (ed_var rfl) ea_nil) ⟨n, rfl, rfl⟩) fun _ => ed_ge (ed_var rfl) (ed_int 0)) (by rw [Bool.true_and])
def Ris_list (ds : List PyData) (d : PyData) : Prop := ∃ (ns : List Int), ds = [L ns] ∧ d = .bool true
abbrev spis_list : Sp := spD Ris_list
theorem is_list_len (ds d) (h : Ris_list ds d) : ds.length = 1 := by obtain ⟨ns, rfl, _⟩ := h; rfl
abbrev sis_list : Stmt := top 8
abbrev nmis_list : List Str := ["value"]
theorem scis_list : FnScope nmis_list ["value"] (defScope sis_list) := ⟨rfl, rfl, rfl, by decide +kernel, rfl, by decide +kernel, by decide +kernel⟩
theorem okis_list {k : Nat} {f : Addr} {fd : FuncData} (F : Fun K "is_list" "is_list" sis_list f fd) (m_isinstance : mg "isinstance" = none) (m_tuple : mg "tuple" = none) (m_list : mg "list" = none) :
    FnOk P w K mg base CX0 (k + 1) f fd ["value"] spis_list := by
  have nd := scis_list.nd
  refine F.ok scis_list (spD_len is_list_len) (fun cdv A outer s H vs Q E hr h => ?_)
  refine ⟨_, (pss_one (ps_ret (pe_callB (isiTK K) (by rfl) m_isinstance (by decide +kernel) (pa_cons (pv 0) (pa_cons (pe_tup (pa_cons (pe_bltn (v := .ty "list") (by rfl) m_list (by decide +kernel) rfl) (pa_cons (pe_bltn (v := .ty "tuple") (by rfl) m_tuple (by decide +kernel) rfl) pa_nil))) pa_nil))))), sx_def h ?_⟩
  rintro _ _ ⟨ns, rfl, rfl⟩
  exact sx_ret (ed_isi2 (ed_var rfl) kit_ll kit_lt) rfl
def Rwant_many (ds : List PyData) (d : PyData) : Prop := ∃ (v m l : Int), 0 ≤ v ∧ l ≤ v ∧ ((ds = [.int v, .int m, .int l] ∧ v ≤ m)) ∧ d = .none
abbrev spwant_many : Sp := spD Rwant_many
theorem want_many_len (ds d) (h : Rwant_many ds d) : ds.length = 3 := by obtain ⟨v, m, l, _, _, ⟨rfl, _⟩, _⟩ := h; rfl
def Rwant_at_most (ds : List PyData) (d : PyData) : Prop := ∃ (x : Str) (l n : Int), n ≤ l ∧ ds = [.str x, .int l, .int n] ∧ d = .none
abbrev spwant_at_most : Sp := spD Rwant_at_most
theorem want_at_most_len (ds d) (h : Rwant_at_most ds d) : ds.length = 3 := by obtain ⟨v, m, l, _, rfl, _⟩ := h; rfl
abbrev swant_at_most : Stmt := top 10
abbrev nmwant_at_most : List Str := ["what", "limit", "number"]
theorem scwant_at_most : FnScope nmwant_at_most ["what", "limit", "number"] (defScope swant_at_most) := ⟨rfl, rfl, rfl, by decide +kernel, rfl, by decide +kernel, by decide +kernel⟩
theorem okwant_at_most {k : Nat} {f : Addr} {fd : FuncData} (F : Fun K "want_at_most" "want_at_most" swant_at_most f fd)  :
    FnOk P w K mg base CX0 (k + 1) f fd ["what", "limit", "number"] spwant_at_most := by
  have nd := scwant_at_most.nd
  refine F.ok scwant_at_most (spD_len want_at_most_len) (fun cdv A outer s H vs Q E hr h => ?_)
  refine ⟨_, (pss_one (ps_if (pt_cmpR op_gt (pv 2) (pv 1) (nomark _)) (pss_one ps_never) pss_nil)), sx_def h ?_⟩
  rintro _ _ ⟨x, l, n, h, rfl, rfl⟩
  exact sx_ifNo (et_is (et_test (ed_gt (ed_var rfl) (ed_var rfl))) (decide_eq_false (by omega))) rfl
def fitsW (p : Int) (ns : List Int) : Bool := if 9 < p + ns.sum then false else ((ns.length % 2 == 0) && (isRound ns && (least ns == ns)))
def Rfits (ds : List PyData) (d : PyData) : Prop := ∃ (p : Int) (ns : List Int), 3 ≤ ns.length ∧ ns.length ≤ 100 ∧ ds = [.int p, L ns] ∧ d = .bool (fitsW p ns)
abbrev spfits : Sp := spD Rfits
theorem fits_len (ds d) (h : Rfits ds d) : ds.length = 2 := by obtain ⟨p, ns, _, _, rfl, _⟩ := h; rfl
theorem fmod2 (n : Nat) : (((n % 2 : Nat) : Int) == 0) = (n % 2 == 0) := by
  cases h : (n % 2 == 0) with
  | true => rw [beq_iff_eq] at h ⊢; omega
  | false => rw [beq_eq_false_iff_ne] at h ⊢; omega
abbrev sfits : Stmt := top 19
abbrev nmfits : List Str := ["peaks", "numbers"]
theorem scfits : FnScope nmfits ["peaks", "numbers"] (defScope sfits) := ⟨rfl, rfl, rfl, by decide +kernel, rfl, by decide +kernel, by decide +kernel⟩
theorem okfits {k : Nat} {f : Addr} {fd : FuncData} (F : Fun K "fits" "fits" sfits f fd) (c_least_list : Cal P w K mg base k "least_list" ["numbers"] spleast_list) (c_is_round : Cal P w K mg base k "is_round" ["numbers"] spis_round) (m_len : mg "len" = none) (m_sum : mg "sum" = none) (m_MOST_CORNERS_words : ∃ t, mg "MOST_CORNERS_words" = some (.int 9 t)) :
    FnOk P w K mg base CX0 (k + 1) f fd ["peaks", "numbers"] spfits := by
  have nd := scfits.nd
  obtain ⟨f_least_list, fd_least_list, G_least_list, g_least_list, k_least_list, b_least_list⟩ := c_least_list.ex
  obtain ⟨f_is_round, fd_is_round, G_is_round, g_is_round, k_is_round, b_is_round⟩ := c_is_round.ex
  refine F.ok scfits (spD_len fits_len) (fun cdv A outer s H vs Q E hr h => ?_)
  refine ⟨_, (pss_cons (ps_if (pt_cmpR op_gt (pe_op op_add (pv 0) (pe_callB (sumK K rfl) (by rfl) m_sum (by decide +kernel) (pa_cons (pv 1) pa_nil))) (pe_glob (v := .int 9) rfl m_MOST_CORNERS_words.choose_spec ⟨_, rfl⟩) (nomark _)) (pss_one (ps_ret pe_bl)) pss_nil)
      (pss_cons (ps_if (pt_cmpR (eqK K hr.units) (pe_callB (lenK K) (by rfl) m_len (by decide +kernel) (pa_cons (pv 1) pa_nil)) pe_int (nomark _)) (pss_one (ps_ret (pe_cmpR op_ge (pv 0) pe_int (nomark _)))) pss_nil)
      (pss_cons (ps_if (pt_cmpR (eqK K hr.units) (pe_callB (lenK K) (by rfl) m_len (by decide +kernel) (pa_cons (pv 1) pa_nil)) pe_int (nomark _)) (pss_one (ps_ret (pe_chain op_le op_le pe_int (pe_ix (ixLK K) (pv 1) pe_int (fun _ _ => rfl)) (pe_ix (ixLK K) (pv 1) pe_int (fun _ _ => rfl))))) pss_nil)
      (pss_one (ps_ret (pe_and (pe_cmpR (eqK K hr.units) (pe_op op_modN (pe_callB (lenK K) (by rfl) m_len (by decide +kernel) (pa_cons (pv 1) pa_nil)) pe_int) pe_int (nomark _)) (pe_and (pe_call G_is_round hr (by rfl) g_is_round k_is_round b_is_round .nil pass0 (pa_cons (pv 1) pa_nil)) (pe_one (pe_cmpR (eqK K hr.units) (pe_call G_least_list hr (by rfl) g_least_list k_least_list b_least_list .nil pass0 (pa_cons (pv 1) pa_nil)) (pv 1) (nomark _)))))))))), sx_def h ?_⟩
  rintro _ _ ⟨p, ns, h1, h2, rfl, rfl⟩
  have hl : (ns.map PyData.int).length = ns.length := List.length_map _
  refine q_ifRet (et_test (ed_gt (ed_add (ed_var rfl) (ed_cb (ea_cons (ed_var rfl) ea_nil) rc_sum) rfl) (ed_int 9))) (fun c => ?_) (fun c => ?_)
  · refine sx_ret (ed_bl false) ?_
    show PyData.bool false = PyData.bool (fitsW p ns)
    unfold fitsW
    rw [if_pos (of_decide_eq_true c)]
  · have c' : ¬ 9 < p + ns.sum := of_decide_eq_false c
    refine q_ifNo (et_is (et_test (ed_eqI (ed_len (ed_var rfl) hl) (ed_int 0))) (beq_eq_false_iff_ne.mpr (by omega))) ?_
    refine q_ifNo (et_is (et_test (ed_eqI (ed_len (ed_var rfl) hl) (ed_int 2))) (beq_eq_false_iff_ne.mpr (by omega))) ?_
    refine sx_ret (ed_andV (ed_eqI (ed_mod ns.length 2 (ed_len (ed_var rfl) hl) (ed_int 2) rfl rfl (by decide)) (ed_int 0)) fun _ => ed_andV (ed_call0 (ea_cons (ed_var rfl) ea_nil) ⟨ns, by omega, h2, rfl, rfl⟩) fun _ => ed_eqL (ed_call0 (ea_cons (ed_var rfl) ea_nil) ⟨ns, by omega, h2, rfl, rfl⟩) (ed_var rfl)) ?_
    unfold fitsW
    rw [if_neg c', fmod2]
def optW (b : Bool) (x : Int × List Int) : PyData := if b then Wd x else .none
def Rword_in (ds : List PyData) (d : PyData) : Prop := ∃ (x : Int × List Int), 0 ≤ x.1 ∧ (∀ n ∈ x.2, (0 : Int) ≤ n) ∧ 3 ≤ x.2.length ∧ x.2.length ≤ 100 ∧ ds = [Wd x] ∧ d = optW (fitsW x.1 x.2) x
abbrev spword_in : Sp := spD Rword_in
theorem word_in_len (ds d) (h : Rword_in ds d) : ds.length = 1 := by obtain ⟨x, _, _, _, _, rfl, _⟩ := h; rfl
theorem atT0 {a b : PyData} : L2.atI [a, b] (0 : Int) = some a := atI_nat (j := 0) rfl
theorem atT1 {a b : PyData} : L2.atI [a, b] (1 : Int) = some b := atI_nat (j := 1) rfl
abbrev sword_in : Stmt := top 20
abbrev nmword_in : List Str := ["value", "found", "number"]
theorem scword_in : FnScope nmword_in ["value"] (defScope sword_in) := ⟨rfl, rfl, rfl, by decide +kernel, rfl, by decide +kernel, by decide +kernel⟩
theorem okword_in {k : Nat} {f : Addr} {fd : FuncData} (F : Fun K "word_in" "word_in" sword_in f fd) (c_fits : Cal P w K mg base k "fits" ["peaks", "numbers"] spfits) (c_is_count : Cal P w K mg base k "is_count" ["value"] spis_count) (c_is_list : Cal P w K mg base k "is_list" ["value"] spis_list) (m_list : mg "list" = none) (m_all : mg "all" = none) (m_len : mg "len" = none) (m_isinstance : mg "isinstance" = none) (m_tuple : mg "tuple" = none) :
    FnOk P w K mg base CX0 (k + 1) f fd ["value"] spword_in := by
  have nd := scword_in.nd
  obtain ⟨f_fits, fd_fits, G_fits, g_fits, k_fits, b_fits⟩ := c_fits.ex
  obtain ⟨f_is_count, fd_is_count, G_is_count, g_is_count, k_is_count, b_is_count⟩ := c_is_count.ex
  obtain ⟨f_is_list, fd_is_list, G_is_list, g_is_list, k_is_list, b_is_list⟩ := c_is_list.ex
  refine F.ok scword_in (spD_len word_in_len) (fun cdv A outer s H vs Q E hr h => ?_)
  refine ⟨_, (pss_cons (ps_if (PW.pt (pw_or (pt_not (pt_val (pe_callB (isiK K) (by rfl) m_isinstance (by decide +kernel) (pa_cons (pv 0) (pa_cons (pe_bltn (v := .ty "tuple") (by rfl) m_tuple (by decide +kernel) rfl) pa_nil))))) (pw_or (pt_cmpR (neK K hr.units) (pe_callB (lenK K) (by rfl) m_len (by decide +kernel) (pa_cons (pv 0) pa_nil)) pe_int (nomark _)) (pw_or (pt_not (pt_val (pe_call G_is_count hr (by rfl) g_is_count k_is_count b_is_count .nil pass0 (pa_cons (pe_ix (ixTK K) (pv 0) pe_int (fun _ _ => rfl)) pa_nil)))) (pw_or1 (pt_not (pt_val (pe_call G_is_list hr (by rfl) g_is_list k_is_list b_is_list .nil pass0 (pa_cons (pe_ix (ixTK K) (pv 0) pe_int (fun _ _ => rfl)) pa_nil))))))))) (pss_one (ps_ret pe_non)) pss_nil)
      (pss_cons (ps_if (pt_not (pt_val (pe_callB (allK K rfl) (by rfl) m_all (by decide +kernel) (pa_cons (pe_lc (own := [("number", 2)]) rfl nd (piK K (pe_ix (ixTK K) (pv 0) pe_int (fun _ _ => rfl))) (blkOk_by (own := [("number", 2)]) (N := nmword_in) (sc := defScope sword_in) (by decide +kernel)) (fun _ _ _ _ _ => (pg_name (i := 2) nd rfl (Or.inl rfl))) (fun _ _ _ _ _ => pts_nil) (fun _ _ _ _ _ => (pe_call G_is_count hr (by rfl) g_is_count k_is_count b_is_count .nil pass0 (pa_cons (pv 2) pa_nil)))) pa_nil)))) (pss_one (ps_ret pe_non)) pss_nil)
      (pss_cons (ps_set (i := 1) nd rfl (Or.inl rfl) (pe_tup (pa_cons (pe_ix (ixTK K) (pv 0) pe_int (fun _ _ => rfl)) (pa_cons (pe_callTy (listK K) (by rfl) m_list (by decide +kernel) (pa_cons (pe_ix (ixTK K) (pv 0) pe_int (fun _ _ => rfl)) pa_nil)) pa_nil))))
      (pss_one (ps_ret (pe_ifExp (pt_val (pe_call G_fits hr (by rfl) g_fits k_fits b_fits .nil pass0 (pa_cons (pe_ix (ixTK K) (pv 1) pe_int (fun _ _ => rfl)) (pa_cons (pe_ix (ixTK K) (pv 1) pe_int (fun _ _ => rfl)) pa_nil)))) (pv 1) pe_non)))))), sx_def h ?_⟩
  rintro _ _ ⟨x, h0, hn, h1, h2, rfl, rfl⟩
  have k1 : kitB (tyD (Wd x)) "tuple" = some true := kit_tt
  have k2 : (!decide (0 ≤ x.1)) = false := by rw [decide_eq_true h0]; rfl
  have k3 : ED (tCB (Evl.rLenS K) (tCons (tVar 0) tNil)) (rho nmword_in [Wd x]) (.int 2) := ed_cb (ea_cons (ed_var rfl) ea_nil) (rc_lenT (ds := [.int x.1, L x.2]))
  refine q_ifNo (et_or (a := false) (b := false) (et_not (a := true) (et_B (ed_isi (ed_var rfl) k1))) fun _ => et_or (a := false) (b := false) (et_is (et_test (ed_neI (a := 2) (b := 2) k3 (ed_int 2))) rfl) fun _ =>
    et_or (a := false) (b := false) (et_is (et_not (et_B (ed_call0 (ea_cons (ed_op (ed_var rfl) (ed_int 0) (rd_ixT atT0)) ea_nil) ⟨x.1, rfl, rfl⟩))) k2) fun _ =>
      et_not (a := true) (et_B (ed_call0 (ea_cons (ed_op (ed_var rfl) (ed_int 1) (rd_ixT atT1)) ea_nil) ⟨x.2, rfl, rfl⟩))) ?_
  refine q_ifNo (et_is (et_not (et_B (ed_cb (ea_cons (ed_is (ed_lcLm (xs := x.2) PyData.int (fun n => .bool (decide (0 ≤ n))) (ed_op (ed_var rfl) (ed_int 1) (rd_ixT atT1)) (by omega) (by decide) (fun d => match d with | .int n => .bool (decide (0 ≤ n)) | _ => .none) (fun n _ => rfl) (fun n _ => ?_)) ?_) ea_nil) (rc_all (bs := x.2.map fun n => decide (0 ≤ n)))))) ?_) ?_
  · exact ed_call0 (ea_cons (ed_var rfl) ea_nil) ⟨n, rfl, rfl⟩
  · show PyData.list _ = PyData.list _
    rw [List.map_map]
    rfl
  · have e : (x.2.map fun n => decide (0 ≤ n)).all id = true := by
      rw [List.all_map, List.all_eq_true]
      intro n hm
      exact decide_eq_true (hn n hm)
    rw [e]
    rfl
  · refine q_asg (d := Wd x) (ed_tup (ea_cons (ed_op (ed_var rfl) (ed_int 0) (rd_ixT atT0)) (ea_cons (ed_cb (ea_cons (ed_op (ed_var rfl) (ed_int 1) (rd_ixT atT1)) ea_nil) rc_list) ea_nil)) (by show 2 ≤ 100000; decide)) trivial ?_
    refine sx_ret (d := optW (fitsW x.1 x.2) x) (ed_if (et_B (ed_call0 (ea_cons (ed_op (ed_var rfl) (ed_int 0) (rd_ixT atT0)) (ea_cons (ed_op (ed_var rfl) (ed_int 1) (rd_ixT atT1)) ea_nil)) ⟨x.1, x.2, h1, h2, rfl, rfl⟩)) (fun b => ?_) (fun b => ?_)) rfl
    · rw [b]; exact ed_var rfl
    · rw [b]; exact ed_non
def Ris_word (ds : List PyData) (d : PyData) : Prop := ∃ (x : Int × List Int), 0 ≤ x.1 ∧ (∀ n ∈ x.2, (0 : Int) ≤ n) ∧ 3 ≤ x.2.length ∧ x.2.length ≤ 100 ∧ ds = [Wd x] ∧ d = .bool (fitsW x.1 x.2)
abbrev spis_word : Sp := spD Ris_word
theorem is_word_len (ds d) (h : Ris_word ds d) : ds.length = 1 := by obtain ⟨x, _, _, _, _, rfl, _⟩ := h; rfl
abbrev sis_word : Stmt := top 21
abbrev nmis_word : List Str := ["value"]
theorem scis_word : FnScope nmis_word ["value"] (defScope sis_word) := ⟨rfl, rfl, rfl, by decide +kernel, rfl, by decide +kernel, by decide +kernel⟩
theorem okis_word {k : Nat} {f : Addr} {fd : FuncData} (F : Fun K "is_word" "is_word" sis_word f fd) (c_word_in : Cal P w K mg base k "word_in" ["value"] spword_in) :
    FnOk P w K mg base CX0 (k + 1) f fd ["value"] spis_word := by
  have nd := scis_word.nd
  obtain ⟨f_word_in, fd_word_in, G_word_in, g_word_in, k_word_in, b_word_in⟩ := c_word_in.ex
  refine F.ok scis_word (spD_len is_word_len) (fun cdv A outer s H vs Q E hr h => ?_)
  refine ⟨_, (pss_one (ps_ret (pe_cmpR op_notN (pe_call G_word_in hr (by rfl) g_word_in k_word_in b_word_in .nil pass0 (pa_cons (pv 0) pa_nil)) pe_non (nomark _)))), sx_def h ?_⟩
  rintro _ _ ⟨x, h0, hn, h1, h2, rfl, rfl⟩
  exact sx_ret (ed_op (ed_call0 (ea_cons (ed_var rfl) ea_nil) ⟨x, h0, hn, h1, h2, rfl, rfl⟩) ed_non (rd_notN (by cases fitsW x.1 x.2 <;> rfl))) rfl
abbrev swant_many : Stmt := top 9
abbrev nmwant_many : List Str := ["value", "most", "least"]
theorem scwant_many : FnScope nmwant_many ["value", "most", "least"] (defScope swant_many) := ⟨rfl, rfl, rfl, by decide +kernel, rfl, by decide +kernel, by decide +kernel⟩
theorem okwant_many {k : Nat} {f : Addr} {fd : FuncData} (F : FunD K "want_many" "want_many" (defArgs swant_many) (defBody swant_many) (defScope swant_many) [.non, .int 0] [] f fd) (c_is_count : Cal P w K mg base k "is_count" ["value"] spis_count) :
    FnOk P w K mg base CX0 (k + 1) f fd ["value", "most", "least"] spwant_many := by
  have nd := scwant_many.nd
  obtain ⟨f_is_count, fd_is_count, G_is_count, g_is_count, k_is_count, b_is_count⟩ := c_is_count.ex
  refine F.ok scwant_many (spD_len want_many_len) (fun cdv A outer s H vs Q E hr h => ?_)
  refine ⟨_, (pss_cons (ps_if (PW.pt (pw_or (pt_not (pt_val (pe_call G_is_count hr (by rfl) g_is_count k_is_count b_is_count .nil pass0 (pa_cons (pv 0) pa_nil)))) (pw_or1 (pt_cmpR op_lt (pv 0) (pv 2) (nomark _))))) (pss_one ps_never) pss_nil)
      (pss_one (ps_if (PW.pt (pw_and (pt_cmpR op_notN (pv 1) pe_non (nomark _)) (pw_and1 (pt_cmpR op_gt (pv 0) (pv 1) (nomark _))))) (pss_one ps_never) pss_nil))), sx_def h ?_⟩
  rintro _ _ ⟨v, m, l, h0, hl, ⟨rfl, hm⟩, rfl⟩
  have k2 : (!decide (0 ≤ v)) = false := by rw [decide_eq_true h0]; rfl
  refine q_ifNo (et_or (a := false) (b := false) (et_is (et_not (et_B (ed_call0 (ea_cons (ed_var rfl) ea_nil) ⟨v, rfl, rfl⟩))) k2) fun _ => et_is (et_test (ed_lt (ed_var rfl) (ed_var rfl))) (decide_eq_false (by omega))) ?_
  exact sx_ifNo (et_and (a := true) (b := false) (et_test (ed_op (ed_var rfl) ed_non (rd_notN rfl))) fun _ => et_is (et_test (ed_gt (ed_var rfl) (ed_var rfl))) (decide_eq_false (by omega))) rfl
end
end DL

/-! W3: listing.py, the pairs. -/
namespace DL
open PySem L2
open Evl (Ex)
section
variable {ρ : DE} {ta tb : TE}
theorem ed_neg {i : Int} (h : ED ta ρ (.int i)) : ED (tUn (rU fun i => .int (-i)) ta) ρ (.int (-i)) := ed_un h fun G H v e a Q q => by
  cases a
  exact ⟨i, rfl, q _ G H (Gw.refl e) (.int _)⟩
theorem rc_min2 {i j : Int} : RCD (fun xs H Q => ∃ i j, xs = [V.int i, V.int j] ∧ Q (V.int (if j < i then j else i)) H) [.int i, .int j] (.int (if j < i then j else i)) := fun G H vs e h Q q => by
  rw [DrA.ints (ns := [i, j]) h]
  exact ⟨i, j, rfl, q _ G H (Gw.refl e) (.int _)⟩
end
section
variable {P : Program} {w : World} {K : PySem.W.Frag} {mg : Str → Option Value} {base : Heap}
def Rmay_follow (ds : List PyData) (d : PyData) : Prop := ∃ (ps : List (Int × Int)) (near far total : Int), 0 ≤ near ∧ near ≤ 100 ∧ ds = [LP ps, .int near, .int far, .int total] ∧ d = .bool (mayFollow ps near far total)
abbrev spmay_follow : Sp := spD Rmay_follow
theorem may_follow_len (ds d) (h : Rmay_follow ds d) : ds.length = 4 := by obtain ⟨ps, _, _, _, _, _, rfl, _⟩ := h; rfl
abbrev smay_follow : Stmt := top 26
abbrev nmmay_follow : List Str := ["pairs", "near", "far", "total", "first", "second"]
theorem scmay_follow : FnScope nmmay_follow ["pairs", "near", "far", "total"] (defScope smay_follow) := ⟨rfl, rfl, rfl, by decide +kernel, rfl, by decide +kernel, by decide +kernel⟩
theorem okmay_follow {k : Nat} {f : Addr} {fd : FuncData} (F : Fun K "may_follow" "may_follow" smay_follow f fd) (m_min : mg "min" = none) :
    FnOk P w K mg base CX0 (k + 1) f fd ["pairs", "near", "far", "total"] spmay_follow := by
  have nd := scmay_follow.nd
  refine F.ok scmay_follow (spD_len may_follow_len) (fun cdv A outer s H vs Q E hr h => ?_)
  refine ⟨_, (pss_cons (ps_if (pt_cmpR (eqK K hr.units) (pv 0) (pe_lst pa_nil) (nomark _)) (pss_one (ps_ret (pe_or (pe_cmpR (eqK K hr.units) (pv 1) pe_int (nomark _)) (pe_one (pe_and (pe_cmpR op_le (pv 1) (pv 2) (nomark _)) (pe_one (pe_cmpR op_le (pe_op op_mul (pv 1) pe_int) (pv 3) (nomark _)))))))) pss_nil)
      (pss_cons (ps_asg (pe_ix (ixLK K) (pv 0) (pe_un un_neg pe_int) (fun _ _ => rfl)) (pgK (n := 2) K rfl (pgs_cons (pg_name (i := 4) nd rfl (Or.inl rfl)) (pgs_cons (pg_name (i := 5) nd rfl (Or.inl rfl)) pgs_nil))))
      (pss_cons (ps_if (PW.pt (pw_or (PW.pt (pw_and (pt_cmpR (eqK K hr.units) (pv 1) pe_int (nomark _)) (pw_and1 (pt_cmpR (eqK K hr.units) (pv 4) pe_int (nomark _))))) (pw_or1 (PW.pt (pw_and (pt_cmpR (eqK K hr.units) (pv 2) pe_int (nomark _)) (pw_and1 (pt_cmpR (eqK K hr.units) (pv 5) pe_int (nomark _)))))))) (pss_one (ps_ret pe_bl)) pss_nil)
      (pss_one (ps_ret (pe_cmpR op_ge (pe_callB (call_min2 rfl) (by rfl) m_min (by decide +kernel) (pa_cons (pv 1) (pa_cons (pv 2) pa_nil))) (pe_ix (ixTK K) (pe_ix (ixLK K) (pv 0) pe_int (fun _ _ => rfl)) pe_int (fun _ _ => rfl)) (nomark _))))))), sx_def h ?_⟩
  rintro _ _ ⟨ps, near, far, total, h0, h1, rfl, rfl⟩
  refine q_ifRet (et_is (et_test (ed_op (ed_var rfl) (ed_lst ea_nil (by decide)) (rd_eqD (sh_LP ps) (sh_LP [])))) (eqv_LPn ps)) (fun b => ?_) (fun b => ?_)
  · obtain rfl : ps = [] := List.isEmpty_iff.mp b
    exact sx_ret (ed_orV (ed_eqI (ed_var rfl) (ed_int 0)) fun _ => ed_andV (ed_le (ed_var rfl) (ed_var rfl)) fun _ => ed_le (ed_op (ed_var rfl) (ed_int 4) (rd_IC (C := CMul) (g := fun i j => i * j) (.inl ⟨by omega, by omega⟩))) (ed_var rfl)) rfl
  · have hne : ps ≠ [] := fun z => by rw [z] at b; cases b
    obtain ⟨⟨a, a'⟩, ez⟩ : ∃ z, ps.getLast hne = z := ⟨_, rfl⟩
    have e1 : ps = ps.dropLast ++ [(a, a')] := by rw [← ez, List.dropLast_concat_getLast]
    have e2 : L2.atI (ps.map P2) (-1) = some (P2 (a, a')) := by
      rw [e1, List.map_append]
      exact atI_last _ _
    have e3 : ps.getLast? = some (a, a') := by rw [List.getLast?_eq_getLast hne, ez]
    obtain ⟨p, r, rfl⟩ : ∃ p r, ps = p :: r := by
      cases ps with
      | nil => exact absurd rfl hne
      | cons p r => exact ⟨p, r, rfl⟩
    refine q_unpack (ed_op (ed_var rfl) (ed_neg (ed_int 1)) (rd_ixL e2)) trivial trivial ?_
    refine q_ifRet (et_or (et_and (et_test (ed_eqI (ed_var rfl) (ed_int 0))) fun _ => et_test (ed_eqI (ed_var rfl) (ed_int 0))) fun _ => et_and (et_test (ed_eqI (ed_var rfl) (ed_int 0))) fun _ => et_test (ed_eqI (ed_var rfl) (ed_int 0))) (fun c => ?_) (fun c => ?_)
    · refine sx_ret (ed_bl false) ?_
      show PyData.bool false = PyData.bool (mayFollow (p :: r) near far total)
      unfold mayFollow
      rw [e3]
      show PyData.bool false = PyData.bool (if _ then _ else _)
      rw [if_pos c]
    · refine sx_ret (ed_ge (ed_cb (ea_cons (ed_var rfl) (ea_cons (ed_var rfl) ea_nil)) rc_min2) (ed_op (ed_op (ed_var rfl) (ed_int 0) (rd_ixL (d := P2 p) (atI_nat (j := 0) rfl))) (ed_int 0) (rd_ixT atT0))) ?_
      have c2 : ¬ (((near == 0) && (a == 0)) || ((far == 0) && (a' == 0))) = true := fun z => by
        have z2 : (((near == 0) && (a == 0)) || ((far == 0) && (a' == 0))) = false := c
        rw [z2] at z
        cases z
      have e4 : mayFollow (p :: r) near far total = decide (((p :: r).headD (0, 0)).1 ≤ (if far < near then far else near)) := by
        unfold mayFollow
        rw [e3]
        exact if_neg c2
      rw [e4]
      rfl
def Rlp (f : Nat) (ds : List PyData) (d : PyData) : Prop := ∃ (ps : List (Int × Int)) (half left total : Nat), ps.length ≤ half ∧ half ≤ 50 ∧ left ≤ 50 ∧ total ≤ 50 ∧ half - ps.length < f ∧ (lp f ps half left total).length < 40000 ∧
  ds = [LP ps, .int half, .int left, .int total] ∧ d = LLP (lp f ps half left total)
abbrev splonger_pairs (f : Nat) : Sp := spD (Rlp f)
theorem longer_pairs_len {f : Nat} (ds d) (h : Rlp f ds d) : ds.length = 4 := by obtain ⟨ps, _, _, _, _, _, _, _, _, _, rfl, _⟩ := h; rfl
variable {n : Nat}
abbrev slonger_pairs : Stmt := top 27
abbrev nmlonger_pairs : List Str := ["pairs", "half", "left", "total", "lacking", "found", "both", "near"]
theorem sclonger_pairs : FnScope nmlonger_pairs ["pairs", "half", "left", "total"] (defScope slonger_pairs) := ⟨rfl, rfl, rfl, by decide +kernel, rfl, by decide +kernel, by decide +kernel⟩
theorem oklonger_pairs {k : Nat} {f : Addr} {fd : FuncData} (F : Fun K "longer_pairs" "longer_pairs" slonger_pairs f fd) (c_may_follow : Cal P w K mg base k "may_follow" ["pairs", "near", "far", "total"] spmay_follow) (c_longer_pairs : Cal P w K mg base k "longer_pairs" ["pairs", "half", "left", "total"] (splonger_pairs n)) (m_range : mg "range" = none) (m_len : mg "len" = none) :
    FnOk P w K mg base CX0 (k + 1) f fd ["pairs", "half", "left", "total"] (splonger_pairs (n + 1)) := by
  have nd := sclonger_pairs.nd
  obtain ⟨f_may_follow, fd_may_follow, G_may_follow, g_may_follow, k_may_follow, b_may_follow⟩ := c_may_follow.ex
  obtain ⟨f_longer_pairs, fd_longer_pairs, G_longer_pairs, g_longer_pairs, k_longer_pairs, b_longer_pairs⟩ := c_longer_pairs.ex
  refine F.ok sclonger_pairs (spD_len longer_pairs_len) (fun cdv A outer s H vs Q E hr h => ?_)
  refine ⟨_, (pss_cons (ps_set (i := 4) nd rfl (Or.inl rfl) (pe_op op_sub (pv 1) (pe_callB (lenK K) (by rfl) m_len (by decide +kernel) (pa_cons (pv 0) pa_nil))))
      (pss_cons (ps_if (pt_cmpR (eqK K hr.units) (pv 4) pe_int (nomark _)) (pss_one (ps_ret (pe_ifExp (pt_cmpR (eqK K hr.units) (pv 2) pe_int (nomark _)) (pe_lst (pa_cons (pv 0) pa_nil)) (pe_lst pa_nil)))) pss_nil)
      (pss_cons (ps_set (i := 5) nd rfl (Or.inl rfl) (pe_lst pa_nil))
      (pss_cons (ps_for PassesOwn.never rfl (pi_range2 (by rfl) m_range (pa_cons pe_int (pa_cons (pe_op op_add (pe_op op_sub (pv 2) (pv 4)) pe_int) pa_nil))) (pg_name (i := 6) nd rfl (Or.inl rfl)) (pss_one (ps_for PassesOwn.never rfl (pi_range1 (by rfl) m_range (pa_cons (pe_op op_add (pv 6) pe_int) pa_nil)) (pg_name (i := 7) nd rfl (Or.inl rfl)) (pss_one (ps_if (pt_val (pe_call G_may_follow hr (by rfl) g_may_follow k_may_follow b_may_follow .nil pass0 (pa_cons (pv 0) (pa_cons (pv 7) (pa_cons (pe_op op_sub (pv 6) (pv 7)) (pa_cons (pv 3) pa_nil)))))) (pss_one (ps_expr (pe_bm PySem.F.plainAttrs_list PySem.F.slot_list_extend PySem.F.type_list_extend mt_extend (pv 5) (pa_cons (pe_call G_longer_pairs hr (by rfl) g_longer_pairs k_longer_pairs b_longer_pairs .nil pass0 (pa_cons (pe_op op_cat (pv 0) (pe_lst (pa_cons (pe_tup (pa_cons (pv 7) (pa_cons (pe_op op_sub (pv 6) (pv 7)) pa_nil))) pa_nil))) (pa_cons (pv 1) (pa_cons (pe_op op_sub (pv 2) (pv 6)) (pa_cons (pv 3) pa_nil))))) pa_nil)))) pss_nil)))))
      (pss_one (ps_ret (pv 5))))))), sx_def h ?_⟩
  rintro _ _ ⟨ps, half, left, total, h1, h2, h3, h4, h5, h6, rfl, rfl⟩
  have hl : (ps.map P2).length = ps.length := List.length_map _
  refine q_asg (ed_sub (c := ((half - ps.length : Nat) : Int)) (ed_var rfl) (ed_len (ed_var rfl) hl) (by omega)) trivial ?_
  generalize hk : half - ps.length = lack at *
  refine q_ifRet (et_test (ed_eqI (ed_var rfl) (ed_int 0))) (fun b => ?_) (fun b => ?_)
  · have b : lack = 0 := by have := beq_iff_eq.mp b; omega
    refine sx_ret (d := LLP (lp (n + 1) ps half left total)) (ed_if (et_test (ed_eqI (ed_var rfl) (ed_int 0))) (fun c => ?_) (fun c => ?_)) rfl
    · have c : left = 0 := by have := beq_iff_eq.mp c; omega
      rw [show lp (n + 1) ps half left total = [ps] by unfold lp; rw [hk, if_pos b, if_pos c]]
      exact ed_lst (ea_cons (ed_var rfl) ea_nil) (by show 1 ≤ 100000; decide)
    · have c : ¬ left = 0 := by have := beq_eq_false_iff_ne.mp c; omega
      rw [show lp (n + 1) ps half left total = [] by unfold lp; rw [hk, if_pos b, if_neg c]]
      exact ed_lst ea_nil (by decide)
  · have b : ¬ lack = 0 := by have := beq_eq_false_iff_ne.mp b; omega
    obtain ⟨hh, hhd⟩ : ∃ hh : Nat → Nat → List (List (Int × Int)), hh = fun i near => lpIn (fun qs l => lp n qs half l total) ps left total i near := ⟨_, rfl⟩
    have e0 : lp (n + 1) ps half left total = (List.range (left + 1 - lack)).flatMap fun i => (List.range (i + 2)).flatMap (hh i) := by
      conv => lhs; unfold lp
      rw [hk, if_neg b, hhd]
    rw [e0] at h6 ⊢
    refine q_new (by show 5 < 8; decide) ?_
    refine sx_seq (sx_forR2 (lo := 1) (n := (left : Int) - lack + 2) (fun i ρ' o' => (∃ x y, ρ' = [some (LP ps), some (.int half), some (.int left), some (.int total), some (.int (lack : Int)), none, x, y]) ∧ o' = some (5, ((List.range i).flatMap fun i => (List.range (i + 2)).flatMap (hh i)).map LP))
      (ea_cons (ed_int 1) (ea_cons (ed_add (ed_sub (ed_var rfl) (ed_var rfl) rfl) (ed_int 2) rfl) ea_nil)) (by omega) ⟨⟨none, none, rfl⟩, rfl⟩ (fun _ _ _ p => by rw [p.2]; show (5 : Nat) ≠ 6; decide) (fun i ρ' o' hi p => ?_) (fun ρ' o' p => p)) (fun ρ' o' p => ?_)
    · obtain ⟨⟨x, y, rfl⟩, rfl⟩ := p
      have hi : i < left + 1 - lack := by omega
      have q1 := pre_le (fun i => (List.range (i + 2)).flatMap (hh i)) _ i hi
      refine SX.mono (sx_forR (n := ((i + 2 : Nat) : Int)) (fun j ρ' o' => (∃ y, ρ' = [some (LP ps), some (.int half), some (.int left), some (.int total), some (.int (lack : Int)), none, some (.int (1 + (i : Int))), y]) ∧ o' = some (5, (((List.range i).flatMap fun i => (List.range (i + 2)).flatMap (hh i)) ++ (List.range j).flatMap (hh i)).map LP))
        (nx := fun ρ' o' => (∃ y, ρ' = [some (LP ps), some (.int half), some (.int left), some (.int total), some (.int (lack : Int)), none, some (.int (1 + (i : Int))), y]) ∧ o' = some (5, (((List.range i).flatMap fun i => (List.range (i + 2)).flatMap (hh i)) ++ (List.range (i + 2)).flatMap (hh i)).map LP))
        (ea_cons (ed_add (ed_var rfl) (ed_int 1) (by omega)) ea_nil) (by omega) ⟨⟨y, rfl⟩, ?_⟩ (fun _ _ _ p => by rw [p.2]; show (5 : Nat) ≠ 7; decide) (fun j ρ' o' hj p => ?_) (fun ρ' o' p => p)) (fun ρ' o' p => ?_) (fun _ z => z)
      · rw [List.range_zero, List.flatMap_nil, List.append_nil]
      · obtain ⟨⟨y, rfl⟩, rfl⟩ := p
        have hj : j < i + 2 := by omega
        have q2 := pre_le (hh i) _ j hj
        refine sx_if (b := mayFollow ps (j : Int) ((i + 1 - j : Nat) : Int) (total : Int)) (et_B (ed_call0 (ea_cons (ed_var rfl) (ea_cons (ed_var rfl) (ea_cons (ed_sub (c := ((i + 1 - j : Nat) : Int)) (ed_var rfl) (ed_var rfl) (by omega)) (ea_cons (ed_var rfl) ea_nil)))) ⟨ps, j, _, total, by omega, by omega, rfl, rfl⟩)) (fun c => ?_) (fun c => ?_)
        · have ej : hh i j = lp n (ps ++ [((j : Int), ((i + 1 - j : Nat) : Int))]) half (left - (i + 1)) total := by
            rw [hhd]
            show lpIn _ _ _ _ _ _ = _
            unfold lpIn
            rw [if_pos c]
          rw [ej] at q2
          refine sx_extend (es := (lp n (ps ++ [((j : Int), ((i + 1 - j : Nat) : Int))]) half (left - (i + 1)) total).map LP) (ed_call0 (ea_cons (ed_is (ed_op (ed_var rfl) (ed_lst (ea_cons (ed_tup (ea_cons (ed_var rfl) (ea_cons (ed_sub (c := ((i + 1 - j : Nat) : Int)) (ed_var rfl) (ed_var rfl) (by omega)) ea_nil)) (by show 2 ≤ 100000; decide)) ea_nil) (by show 1 ≤ 100000; decide)) (rd_cat (by rw [hl]; show ps.length + 1 ≤ 100000; omega))) (e := ?_))
            (ea_cons (ed_var rfl) (ea_cons (ed_sub (c := ((left - (i + 1) : Nat) : Int)) (ed_var rfl) (ed_var rfl) (by omega)) (ea_cons (ed_var rfl) ea_nil)))) ⟨ps ++ [((j : Int), ((i + 1 - j : Nat) : Int))], half, left - (i + 1), total, ?_, h2, by omega, h4, ?_, by omega, rfl, rfl⟩) ?_ ⟨⟨_, rfl⟩, ?_⟩
          · show PyData.list _ = PyData.list _
            rw [List.map_append]
            rfl
          · rw [List.length_append, List.length_singleton]; omega
          · rw [List.length_append, List.length_singleton]; omega
          · rw [List.length_map, List.length_map, List.length_append]; omega
          · simp only [fm_succ, ej, List.map_append, List.append_assoc]
        · refine sx_next ⟨⟨_, rfl⟩, ?_⟩
          have ej : hh i j = [] := by
            rw [hhd]
            show lpIn _ _ _ _ _ _ = _
            unfold lpIn
            rw [if_neg (by rw [c]; exact Bool.false_ne_true)]
          rw [fm_succ, ej, List.append_nil]
      · obtain ⟨⟨y, rfl⟩, rfl⟩ := p
        exact ⟨⟨_, _, rfl⟩, by rw [fm_succ (fun i => (List.range (i + 2)).flatMap (hh i)) i]⟩
    · obtain ⟨⟨x, y, rfl⟩, rfl⟩ := p
      refine sx_freeze (sx_ret (ed_var rfl) ?_)
      rw [show ((left : Int) - lack + 2 - 1).toNat = left + 1 - lack by omega]
theorem lp_none {k : Nat} {f : Addr} {fd : FuncData} : FnOk P w K mg base CX0 k f fd ["pairs", "half", "left", "total"] (splonger_pairs 0) := by
  have no : ∀ vs H Q E, ¬ splonger_pairs 0 vs H Q E := fun vs H Q E h => by
    obtain ⟨_, _, _, _, _, ⟨_, _, _, _, _, _, _, _, h5, _⟩, _⟩ := h
    omega
  exact ⟨fun vs H Q E h => absurd h (no vs H Q E), fun A outer s H args us vs Q E _ _ _ _ h => absurd h (no vs H Q E)⟩
def Ris_least (ds : List PyData) (d : PyData) : Prop := ∃ (ns : List Int), ns.length ≤ 100 ∧ ds = [L ns] ∧ d = .bool (isLeast ns)
abbrev spis_least : Sp := spD Ris_least
theorem is_least_len (ds d) (h : Ris_least ds d) : ds.length = 1 := by obtain ⟨ns, _, rfl, _⟩ := h; rfl
def listInts : PyData → List Int
  | .list ds => ds.map fun d => match d with | .int n => n | _ => 0
  | _ => []
theorem listInts_L (ns : List Int) : listInts (L ns) = ns := by
  unfold listInts
  show (ns.map PyData.int).map _ = ns
  rw [List.map_map]
  exact List.map_id _
abbrev sis_least : Stmt := top 28
abbrev nmis_least : List Str := ["numbers", "other"]
theorem scis_least : FnScope nmis_least ["numbers"] (defScope sis_least) := ⟨rfl, rfl, rfl, by decide +kernel, rfl, by decide +kernel, by decide +kernel⟩
theorem okis_least {k : Nat} {f : Addr} {fd : FuncData} (F : Fun K "is_least" "is_least" sis_least f fd) (c_shifts_of : Cal P w K mg base k "shifts_of" ["numbers"] spshifts_of) (m_all : mg "all" = none) :
    FnOk P w K mg base CX0 (k + 1) f fd ["numbers"] spis_least := by
  have nd := scis_least.nd
  obtain ⟨f_shifts_of, fd_shifts_of, G_shifts_of, g_shifts_of, k_shifts_of, b_shifts_of⟩ := c_shifts_of.ex
  refine F.ok scis_least (spD_len is_least_len) (fun cdv A outer s H vs Q E hr h => ?_)
  refine ⟨_, (pss_one (ps_ret (pe_callB (allK K rfl) (by rfl) m_all (by decide +kernel) (pa_cons (pe_lc (own := [("other", 1)]) rfl nd (piK K (pe_call G_shifts_of hr (by rfl) g_shifts_of k_shifts_of b_shifts_of .nil pass0 (pa_cons (pv 0) pa_nil))) (blkOk_by (own := [("other", 1)]) (N := nmis_least) (sc := defScope sis_least) (by decide +kernel)) (fun _ _ _ _ _ => (pg_name (i := 1) nd rfl (Or.inl rfl))) (fun _ _ _ _ _ => pts_nil) (fun _ _ _ _ _ => (pe_cmpR (leLK K hr.units) (pv 0) (pv 1) (nomark _)))) pa_nil)))), sx_def h ?_⟩
  rintro _ _ ⟨ns, h2, rfl, rfl⟩
  have hz := shifts_len ns h2
  refine sx_ret (ed_cb (ea_cons (ed_is (ed_lcLm (xs := shifts ns) L (fun o => .bool (!lexLt o ns)) (ed_call0 (ea_cons (ed_var rfl) ea_nil) ⟨ns, h2, rfl, rfl⟩) (by omega) (by decide) (fun d => .bool (!lexLt (listInts d) ns)) (fun o _ => ?_) (fun o _ => ?_)) ?_) ea_nil) (rc_all (bs := (shifts ns).map fun o => !lexLt o ns))) ?_
  · show PyData.bool (!lexLt (listInts (L o)) ns) = PyData.bool (!lexLt o ns)
    rw [listInts_L]
  · exact ed_op (ed_var rfl) (ed_var rfl) (rd_leL ns o)
  · show PyData.list _ = PyData.list _
    rw [List.map_map]
    rfl
  · rw [List.all_map]
    rfl
end
end DL

/-! W4: listing.py, the lists of words. -/
namespace DL
open PySem L2
open Evl (Ex)
def fstD : PyData → PyData
  | .tuple (a :: _) => a
  | _ => .none
def sndD : PyData → PyData
  | .tuple (_ :: b :: _) => b
  | _ => .none
section
variable {K : PySem.W.Frag} {ρ : DE} {tl te : TE}
/-- [a for a, b in pairs], [b for a, b in pairs] -/
theorem ed_fst {i j : Nat} {vs : List Nat} {ps : List (Int × Int)} (h : ED tl ρ (LP ps)) (hi : i ∈ vs) (hj : j ∈ vs) (hl : ps.length < 50000)
    (he : ∀ x, ED te (((wipeD ρ vs).set i (some (fstD x))).set j (some (sndD x))) (fstD x)) :
    ED (tLc (iList K tl) (gTup K 2 (gCons (gName i) (gCons (gName j) gNil))) tYes te vs) ρ (L (ps.map (·.1))) := by
  have q := ed_lcP (te := te) (tt := tYes) (K := K) (fun _ => true) fstD fstD sndD h hi hj (by rw [List.length_map]; exact hl) (fun x hx => by
    obtain ⟨p, _, rfl⟩ := List.mem_map.mp hx
    rfl) (fun _ _ => et_yes) (fun x hx _ => he x)
  rw [List.filter_eq_self.mpr (fun _ _ => rfl), List.map_map] at q
  show ED _ ρ (.list _)
  rw [List.map_map]
  exact q
theorem ed_snd {i j : Nat} {vs : List Nat} {ps : List (Int × Int)} (h : ED tl ρ (LP ps)) (hi : i ∈ vs) (hj : j ∈ vs) (hl : ps.length < 50000)
    (he : ∀ x, ED te (((wipeD ρ vs).set i (some (fstD x))).set j (some (sndD x))) (sndD x)) :
    ED (tLc (iList K tl) (gTup K 2 (gCons (gName i) (gCons (gName j) gNil))) tYes te vs) ρ (L (ps.map (·.2))) := by
  have q := ed_lcP (te := te) (tt := tYes) (K := K) (fun _ => true) sndD fstD sndD h hi hj (by rw [List.length_map]; exact hl) (fun x hx => by
    obtain ⟨p, _, rfl⟩ := List.mem_map.mp hx
    rfl) (fun _ _ => et_yes) (fun x hx _ => he x)
  rw [List.filter_eq_self.mpr (fun _ _ => rfl), List.map_map] at q
  show ED _ ρ (.list _)
  rw [List.map_map]
  exact q
end
section
variable {P : Program} {w : World} {K : PySem.W.Frag} {mg : Str → Option Value} {base : Heap}
def Rrounds_of (ds : List PyData) (d : PyData) : Prop := ∃ (t : Nat), t ≤ 7 ∧ ds = [.int t] ∧ d = LL (roundsOf t)
abbrev sprounds_of : Sp := spD Rrounds_of
theorem rounds_of_len (ds d) (h : Rrounds_of ds d) : ds.length = 1 := by obtain ⟨t, _, rfl, _⟩ := h; rfl
def rIn (t i : Nat) : List (List Int) := ((lp 10 [] (i + 2) t t).map numsOf).filter good
theorem take_filter {qss : List (List (Int × Int))} {k : Nat} {qs : List (Int × Int)} (h : qss[k]? = some qs) :
    ((qss.take (k + 1)).map numsOf).filter good = ((qss.take k).map numsOf).filter good ++ (if good (numsOf qs) then [numsOf qs] else []) := by
  have e : qss.take (k + 1) = qss.take k ++ [qs] := by rw [List.take_add_one, h]; rfl
  rw [e, List.map_append, List.filter_append]
  congr 1
  by_cases g : good (numsOf qs) = true
  · rw [if_pos g, List.map_singleton, List.filter_cons, if_pos g]; rfl
  · rw [if_neg g, List.map_singleton, List.filter_cons, if_neg g]; rfl
abbrev srounds_of : Stmt := top 29
abbrev nmrounds_of : List Str := ["total", "found", "half", "pairs", "numbers", "near", "far"]
theorem scrounds_of : FnScope nmrounds_of ["total"] (defScope srounds_of) := ⟨rfl, rfl, rfl, by decide +kernel, rfl, by decide +kernel, by decide +kernel⟩
theorem okrounds_of {k : Nat} {f : Addr} {fd : FuncData} (F : Fun K "rounds_of" "rounds_of" srounds_of f fd) (c_longer_pairs : Cal P w K mg base k "longer_pairs" ["pairs", "half", "left", "total"] (splonger_pairs 10)) (c_is_least : Cal P w K mg base k "is_least" ["numbers"] spis_least) (c_is_round : Cal P w K mg base k "is_round" ["numbers"] spis_round) (m_range : mg "range" = none) :
    FnOk P w K mg base CX0 (k + 1) f fd ["total"] sprounds_of := by
  have nd := scrounds_of.nd
  obtain ⟨f_longer_pairs, fd_longer_pairs, G_longer_pairs, g_longer_pairs, k_longer_pairs, b_longer_pairs⟩ := c_longer_pairs.ex
  obtain ⟨f_is_least, fd_is_least, G_is_least, g_is_least, k_is_least, b_is_least⟩ := c_is_least.ex
  obtain ⟨f_is_round, fd_is_round, G_is_round, g_is_round, k_is_round, b_is_round⟩ := c_is_round.ex
  refine F.ok scrounds_of (spD_len rounds_of_len) (fun cdv A outer s H vs Q E hr h => ?_)
  refine ⟨_, (pss_cons (ps_set (i := 1) nd rfl (Or.inl rfl) (pe_lst pa_nil))
      (pss_cons (ps_for PassesOwn.never rfl (pi_range2 (by rfl) m_range (pa_cons pe_int (pa_cons (pe_op op_add (pv 0) pe_int) pa_nil))) (pg_name (i := 2) nd rfl (Or.inl rfl)) (pss_one (ps_for PassesOwn.never rfl (piK K (pe_call G_longer_pairs hr (by rfl) g_longer_pairs k_longer_pairs b_longer_pairs .nil pass0 (pa_cons (pe_lst pa_nil) (pa_cons (pv 2) (pa_cons (pv 0) (pa_cons (pv 0) pa_nil)))))) (pg_name (i := 3) nd rfl (Or.inl rfl)) (pss_cons (ps_set (i := 4) nd rfl (Or.inl rfl) (pe_op op_cat (pe_lc (own := [("near", 5), ("far", 6)]) rfl nd (piK K (pv 3)) (blkOk_by (own := [("near", 5), ("far", 6)]) (N := nmrounds_of) (sc := defScope srounds_of) (by decide +kernel)) (fun _ _ _ _ _ => (pgK (n := 2) K rfl (pgs_cons (pg_name (i := 5) nd rfl (Or.inl rfl)) (pgs_cons (pg_name (i := 6) nd rfl (Or.inl rfl)) pgs_nil)))) (fun _ _ _ _ _ => pts_nil) (fun _ _ _ _ _ => (pv 5))) (pe_lc (own := [("near", 5), ("far", 6)]) rfl nd (piK K (pv 3)) (blkOk_by (own := [("near", 5), ("far", 6)]) (N := nmrounds_of) (sc := defScope srounds_of) (by decide +kernel)) (fun _ _ _ _ _ => (pgK (n := 2) K rfl (pgs_cons (pg_name (i := 5) nd rfl (Or.inl rfl)) (pgs_cons (pg_name (i := 6) nd rfl (Or.inl rfl)) pgs_nil)))) (fun _ _ _ _ _ => pts_nil) (fun _ _ _ _ _ => (pv 6)))))
      (pss_one (ps_if (PW.pt (pw_and (pt_val (pe_call G_is_round hr (by rfl) g_is_round k_is_round b_is_round .nil pass0 (pa_cons (pv 4) pa_nil))) (pw_and1 (pt_val (pe_call G_is_least hr (by rfl) g_is_least k_is_least b_is_least .nil pass0 (pa_cons (pv 4) pa_nil)))))) (pss_one (ps_expr (pe_bm PySem.F.plainAttrs_list PySem.F.slot_list_append PySem.F.type_list_append mt_append (pv 1) (pa_cons (pv 4) pa_nil)))) pss_nil))))))
      (pss_one (ps_ret (pv 1))))), sx_def h ?_⟩
  rintro _ _ ⟨t, h7, rfl, rfl⟩
  refine q_new (by show 1 < 7; decide) ?_
  have hsm : ∀ i, i < t - 1 → (lp 10 [] (i + 2) t t).length ≤ 600 := fun i hi => lp_small t (by omega) (i + 2) (by omega)
  have hri : ∀ i, i < t - 1 → (rIn t i).length ≤ 600 := fun i hi => by
    unfold rIn
    refine Nat.le_trans (List.length_filter_le _ _) ?_
    rw [List.length_map]
    exact hsm i hi
  refine sx_seq (sx_forR2 (lo := 2) (n := (t : Int) + 1) (fun i ρ' o' => (∃ x y z, ρ' = [some (.int t), none, x, y, z, none, none]) ∧ o' = some (1, ((List.range i).flatMap (rIn t)).map L))
    (ea_cons (ed_int 2) (ea_cons (ed_add (ed_var rfl) (ed_int 1) rfl) ea_nil)) (by omega) ⟨⟨none, none, none, rfl⟩, rfl⟩ (fun _ _ _ p => by rw [p.2]; show (1 : Nat) ≠ 2; decide) (fun i ρ' o' hi p => ?_) (fun ρ' o' p => p)) (fun ρ' o' p => ?_)
  · obtain ⟨⟨x, y, z, rfl⟩, rfl⟩ := p
    have hi : i < t - 1 := by omega
    have hA := fm_le (rIn t) i 600 fun j hj => hri j (by omega)
    refine SX.mono (sx_forL (ds := (lp 10 [] (i + 2) t t).map LP) (fun k ρ' o' => (∃ y z, ρ' = [some (.int t), none, some (.int (2 + (i : Int))), y, z, none, none]) ∧ o' = some (1, (((List.range i).flatMap (rIn t)) ++ (((lp 10 [] (i + 2) t t).take k).map numsOf).filter good).map L))
      (nx := fun ρ' o' => (∃ y z, ρ' = [some (.int t), none, some (.int (2 + (i : Int))), y, z, none, none]) ∧ o' = some (1, (((List.range i).flatMap (rIn t)) ++ rIn t i).map L))
      (ed_call0 (ea_cons (ed_lst ea_nil (by decide)) (ea_cons (ed_var rfl) (ea_cons (ed_var rfl) (ea_cons (ed_var rfl) ea_nil)))) ⟨[], i + 2, t, t, by show 0 ≤ i + 2; omega, by omega, by omega, by omega, by show i + 2 - 0 < 10; omega, by have := hsm i hi; omega, ?_, rfl⟩)
      ⟨⟨y, z, rfl⟩, ?_⟩ (fun _ _ _ p => by rw [p.2]; show (1 : Nat) ≠ 3; decide) (fun k qd ρ' o' hk p => ?_) (fun ρ' o' p => ?_)) (fun ρ' o' p => ?_) (fun _ z => z)
    · rw [show (2 : Int) + (i : Int) = ((i + 2 : Nat) : Int) by omega]; rfl
    · rw [List.take_zero, List.map_nil, List.filter_nil, List.append_nil]
    · obtain ⟨⟨y, z, rfl⟩, rfl⟩ := p
      rw [List.getElem?_map] at hk
      cases hq : (lp 10 [] (i + 2) t t)[k]? with
      | none => rw [hq] at hk; cases hk
      | some qs =>
        rw [hq] at hk
        cases hk
        have ql : qs.length = i + 2 := lp_len 10 [] (i + 2) t t (by show 0 ≤ i + 2; omega) qs (List.mem_of_getElem? hq)
        have nl := nums_len qs
        have hk2 : k < (lp 10 [] (i + 2) t t).length := (List.getElem?_eq_some_iff.mp hq).1
        have hs2 := hsm i hi
        refine q_asg (d := L (numsOf qs)) (ed_is (ed_op (ed_fst (ps := qs) (ed_var rfl) (by decide) (by decide) (by omega) (fun x => ed_var rfl)) (ed_snd (ps := qs) (ed_var rfl) (by decide) (by decide) (by omega) (fun x => ed_var rfl)) (rd_cat ?_)) ?_) (by show (1 : Nat) ≠ 4; decide) ?_
        · rw [List.length_map, List.length_map, List.length_map, List.length_map]; omega
        · unfold numsOf
          show PyData.list _ = PyData.list _
          rw [List.map_append]
        · refine sx_if (b := good (numsOf qs)) (et_and (et_B (ed_call0 (ea_cons (ed_var rfl) ea_nil) ⟨numsOf qs, by omega, by omega, rfl, rfl⟩)) fun _ => et_B (ed_call0 (ea_cons (ed_var rfl) ea_nil) ⟨numsOf qs, by omega, rfl, rfl⟩)) (fun g => ?_) (fun g => ?_)
          · refine sx_append (ed_var rfl) ?_ ⟨⟨_, _, rfl⟩, ?_⟩
            · rw [List.length_map, List.length_append]
              have h1 := List.length_filter_le good (((lp 10 [] (i + 2) t t).take k).map numsOf)
              rw [List.length_map, List.length_take] at h1
              omega
            · rw [take_filter hq, if_pos g, ← List.append_assoc]
              simp only [List.map_append, List.map_singleton]
          · refine sx_next ⟨⟨_, _, rfl⟩, ?_⟩
            rw [take_filter hq, if_neg (by rw [g]; exact Bool.false_ne_true), List.append_nil]
    · obtain ⟨a, rfl⟩ := p
      refine ⟨a, ?_⟩
      rw [List.length_map, List.take_length]
      rfl
    · obtain ⟨⟨y, z, rfl⟩, rfl⟩ := p
      exact ⟨⟨_, _, _, rfl⟩, by rw [fm_succ (rIn t) i]⟩
  · obtain ⟨⟨x, y, z, rfl⟩, rfl⟩ := p
    refine sx_freeze (sx_ret (ed_var rfl) ?_)
    rw [show ((t : Int) + 1 - 2).toNat = t - 1 by omega]
    rfl
def Rlists_of (ds : List PyData) (d : PyData) : Prop := ∃ (t ex : Nat), 1 ≤ t ∧ t ≤ 9 ∧ (ex = 1 ∨ (ex = 2 ∧ t ≤ 7)) ∧ ds = [.int t, .int ex] ∧ d = LL (listsOf t ex)
abbrev splists_of : Sp := spD Rlists_of
theorem lists_of_len (ds d) (h : Rlists_of ds d) : ds.length = 2 := by obtain ⟨t, ex, _, _, _, rfl, _⟩ := h; rfl
abbrev slists_of : Stmt := top 30
abbrev nmlists_of : List Str := ["total", "excess", "least"]
theorem sclists_of : FnScope nmlists_of ["total", "excess"] (defScope slists_of) := ⟨rfl, rfl, rfl, by decide +kernel, rfl, by decide +kernel, by decide +kernel⟩
theorem oklists_of {k : Nat} {f : Addr} {fd : FuncData} (F : Fun K "lists_of" "lists_of" slists_of f fd) (c_rounds_of : Cal P w K mg base k "rounds_of" ["total"] sprounds_of) (m_range : mg "range" = none) :
    FnOk P w K mg base CX0 (k + 1) f fd ["total", "excess"] splists_of := by
  have nd := sclists_of.nd
  obtain ⟨f_rounds_of, fd_rounds_of, G_rounds_of, g_rounds_of, k_rounds_of, b_rounds_of⟩ := c_rounds_of.ex
  refine F.ok sclists_of (spD_len lists_of_len) (fun cdv A outer s H vs Q E hr h => ?_)
  refine ⟨_, (pss_cons (ps_if (pt_cmpR (eqK K hr.units) (pv 1) pe_int (nomark _)) (pss_one (ps_ret (pe_lc (own := [("least", 2)]) rfl nd (pi_range2 (by rfl) m_range (pa_cons pe_int (pa_cons (pe_op op_add (pe_op op_fdivN (pv 0) pe_int) pe_int) pa_nil))) (blkOk_by (own := [("least", 2)]) (N := nmlists_of) (sc := defScope slists_of) (by decide +kernel)) (fun _ _ _ _ _ => (pg_name (i := 2) nd rfl (Or.inl rfl))) (fun _ _ _ _ _ => pts_nil) (fun _ _ _ _ _ => (pe_lst (pa_cons (pv 2) (pa_cons (pe_op op_sub (pv 0) (pv 2)) pa_nil))))))) pss_nil)
      (pss_one (ps_ret (pe_call G_rounds_of hr (by rfl) g_rounds_of k_rounds_of b_rounds_of .nil pass0 (pa_cons (pv 0) pa_nil))))), sx_def h ?_⟩
  rintro _ _ ⟨t, ex, h1, h9, hx, rfl, rfl⟩
  refine q_ifRet (et_test (ed_eqI (ed_var rfl) (ed_int 1))) (fun b => ?_) (fun b => ?_)
  · have b : ex = 1 := by have := beq_iff_eq.mp b; omega
    subst b
    refine sx_ret (d := LL (listsOf t 1)) (ed_is (ed_lcR2 (tt := tYes) (lo := 2) (n := ((t / 2 : Nat) : Int) + 1) (fun _ => true) (fun i => L [((i + 2 : Nat) : Int), ((t - (i + 2) : Nat) : Int)]) (ea_cons (ed_int 2) (ea_cons (ed_add (ed_half t (ed_var rfl) rfl) (ed_int 1) rfl) ea_nil)) (by omega) (by decide) (fun _ _ => et_yes) (fun i hi _ => ?_)) ?_) rfl
    · rw [show (2 : Int) + (i : Int) = ((i + 2 : Nat) : Int) by omega]
      exact ed_lst (ea_cons (ed_var rfl) (ea_cons (ed_sub (ed_var rfl) (ed_var rfl) (by omega)) ea_nil)) (by show 2 ≤ 100000; decide)
    · rw [rng_filter, show (((t / 2 : Nat) : Int) + 1 - 2).toNat = t / 2 - 1 by omega]
      unfold listsOf
      rw [if_pos rfl]
      show _ = PyData.list _
      rw [List.map_map]
      rfl
  · have b : ¬ ex = 1 := by have := beq_eq_false_iff_ne.mp b; omega
    have e : ex = 2 ∧ t ≤ 7 := by omega
    refine sx_ret (d := LL (listsOf t ex)) (ed_call0 (ea_cons (ed_var rfl) ea_nil) ⟨t, e.2, rfl, ?_⟩) rfl
    unfold listsOf
    rw [if_neg b]
def Rwant_two (ds : List PyData) (d : PyData) : Prop := ∃ (m ex : Nat), 2 ≤ m ∧ m ≤ 9 ∧ ex ≤ 2 ∧ ds = [.int m, .int ex] ∧ d = .none
abbrev spwant_two : Sp := spD Rwant_two
theorem want_two_len (ds d) (h : Rwant_two ds d) : ds.length = 2 := by obtain ⟨t, ex, _, _, _, rfl, _⟩ := h; rfl
abbrev swant_two : Stmt := top 25
abbrev nmwant_two : List Str := ["many", "excess"]
theorem scwant_two : FnScope nmwant_two ["many", "excess"] (defScope swant_two) := ⟨rfl, rfl, rfl, by decide +kernel, rfl, by decide +kernel, by decide +kernel⟩
theorem okwant_two {k : Nat} {f : Addr} {fd : FuncData} (F : Fun K "want_two" "want_two" swant_two f fd) (c_want_many_2 : CalD P w K mg base k "want_many" ["value", "most", "least"] [.int 0] spwant_many) (c_want_many_3 : CalD P w K mg base k "want_many" ["value", "most", "least"] [] spwant_many) (m_MOST_CORNERS_listing : ∃ t, mg "MOST_CORNERS_listing" = some (.int 9 t)) :
    FnOk P w K mg base CX0 (k + 1) f fd ["many", "excess"] spwant_two := by
  have nd := scwant_two.nd
  obtain ⟨f_want_many_2, fd_want_many_2, ds_want_many_2, G_want_many_2, g_want_many_2, k_want_many_2, d_want_many_2, b_want_many_2⟩ := c_want_many_2.ex
  obtain ⟨f_want_many_3, fd_want_many_3, ds_want_many_3, G_want_many_3, g_want_many_3, k_want_many_3, d_want_many_3, b_want_many_3⟩ := c_want_many_3.ex
  refine F.ok scwant_two (spD_len want_two_len) (fun cdv A outer s H vs Q E hr h => ?_)
  refine ⟨_, (pss_cons (ps_expr (pe_call G_want_many_3 hr (by rfl) g_want_many_3 k_want_many_3 b_want_many_3 d_want_many_3 pass0 (pa_cons (pv 0) (pa_cons (pe_glob (v := .int 9) rfl m_MOST_CORNERS_listing.choose_spec ⟨_, rfl⟩) (pa_cons pe_int pa_nil)))))
      (pss_one (ps_expr (pe_call G_want_many_2 hr (by rfl) g_want_many_2 k_want_many_2 b_want_many_2 d_want_many_2 pass0 (pa_cons (pv 1) (pa_cons pe_int pa_nil)))))), sx_def h ?_⟩
  rintro _ _ ⟨m, ex, h1, h9, hx, rfl, rfl⟩
  refine q_drop (ed_call0 (ea_cons (ed_var rfl) (ea_cons (ed_int 9) (ea_cons (ed_int 2) ea_nil))) ⟨m, 9, 2, by omega, by omega, ⟨rfl, by omega⟩, rfl⟩) ?_
  exact sx_drop (ed_call (dds := [.int 0]) (ea_cons (ed_var rfl) (ea_cons (ed_int 2) ea_nil)) (fun G => .cons (.int 0) .nil) ⟨ex, 2, 0, by omega, by omega, ⟨rfl, by omega⟩, rfl⟩) rfl
def Rall_words (ds : List PyData) (d : PyData) : Prop := ∃ (m ex : Nat), 2 ≤ m ∧ m ≤ 9 ∧ (ex = 0 ∨ ex = 1 ∨ (ex = 2 ∧ m ≤ 7)) ∧ ds = [.int m, .int ex] ∧ d = LW (allWords m ex)
abbrev spall_words : Sp := spD Rall_words
theorem all_words_len (ds d) (h : Rall_words ds d) : ds.length = 2 := by obtain ⟨t, ex, _, _, _, rfl, _⟩ := h; rfl
def aIn (m ex p : Nat) : List (Int × List Int) := (listsOf (m - p) ex).map fun ns => ((p : Int), ns)
abbrev sall_words : Stmt := top 31
abbrev nmall_words : List Str := ["many", "excess", "found", "peaks", "numbers"]
theorem scall_words : FnScope nmall_words ["many", "excess"] (defScope sall_words) := ⟨rfl, rfl, rfl, by decide +kernel, rfl, by decide +kernel, by decide +kernel⟩
theorem okall_words {k : Nat} {f : Addr} {fd : FuncData} (F : Fun K "all_words" "all_words" sall_words f fd) (c_lists_of : Cal P w K mg base k "lists_of" ["total", "excess"] splists_of) (m_sorted : mg "sorted" = none) (m_range : mg "range" = none) :
    FnOk P w K mg base CX0 (k + 1) f fd ["many", "excess"] spall_words := by
  have nd := scall_words.nd
  obtain ⟨f_lists_of, fd_lists_of, G_lists_of, g_lists_of, k_lists_of, b_lists_of⟩ := c_lists_of.ex
  refine F.ok scall_words (spD_len all_words_len) (fun cdv A outer s H vs Q E hr h => ?_)
  refine ⟨_, (pss_cons (ps_if (pt_cmpR (eqK K hr.units) (pv 1) pe_int (nomark _)) (pss_one (ps_ret (pe_lst (pa_cons (pe_tup (pa_cons (pv 0) (pa_cons (pe_lst pa_nil) pa_nil))) pa_nil)))) pss_nil)
      (pss_cons (ps_set (i := 2) nd rfl (Or.inl rfl) (pe_lst pa_nil))
      (pss_cons (ps_for PassesOwn.never rfl (pi_range1 (by rfl) m_range (pa_cons (pv 0) pa_nil)) (pg_name (i := 3) nd rfl (Or.inr rfl)) (pss_one (ps_expr (pe_bm PySem.F.plainAttrs_list PySem.F.slot_list_extend PySem.F.type_list_extend mt_extend (pv 2) (pa_cons (pe_lc (own := [("numbers", 4)]) rfl nd (piK K (pe_call G_lists_of hr (by rfl) g_lists_of k_lists_of b_lists_of .nil pass0 (pa_cons (pe_op op_sub (pv 0) (pv 3)) (pa_cons (pv 1) pa_nil)))) (blkOk_by (own := [("numbers", 4)]) (N := nmall_words) (sc := defScope sall_words) (by decide +kernel)) (fun _ _ _ _ _ => (pg_name (i := 4) nd rfl (Or.inl rfl))) (fun _ _ _ _ _ => pts_nil) (fun _ _ _ _ _ => (pe_tup (pa_cons (pv 3) (pa_cons (pv 4) pa_nil))))) pa_nil)))))
      (pss_one (ps_ret (pe_callB (sortedK K hr.units) (by rfl) m_sorted (by decide +kernel) (pa_cons (pv 2) pa_nil))))))), sx_def h ?_⟩
  rintro _ _ ⟨m, ex, h1, h9, hx, rfl, rfl⟩
  refine q_ifRet (et_test (ed_eqI (ed_var rfl) (ed_int 0))) (fun b => ?_) (fun b => ?_)
  · have b : ex = 0 := by have := beq_iff_eq.mp b; omega
    subst b
    exact sx_ret (ed_lst (ea_cons (ed_tup (ea_cons (ed_var rfl) (ea_cons (ed_lst ea_nil (by decide)) ea_nil)) (by show 2 ≤ 100000; decide)) ea_nil) (by show 1 ≤ 100000; decide)) rfl
  · have b : ¬ ex = 0 := by have := beq_eq_false_iff_ne.mp b; omega
    have hx : ex = 1 ∨ (ex = 2 ∧ m ≤ 7) := by omega
    refine q_new (by show 2 < 5; decide) ?_
    have hls : ∀ p, p < m → (listsOf (m - p) ex).length ≤ 100 := fun p hp => lists_small (m - p) ex (by omega) (by omega)
    have hai : ∀ p, p < m → (aIn m ex p).length ≤ 100 := fun p hp => by unfold aIn; rw [List.length_map]; exact hls p hp
    refine sx_seq (sx_forR (n := (m : Int)) (fun p ρ' o' => (∃ x, ρ' = [some (.int m), some (.int ex), none, x, none]) ∧ o' = some (2, ((List.range p).flatMap (aIn m ex)).map Wd)) (ea_cons (ed_var rfl) ea_nil) (by omega) ⟨⟨none, rfl⟩, rfl⟩ (fun _ _ _ p => by rw [p.2]; show (2 : Nat) ≠ 3; decide) (fun p ρ' o' hp q => ?_) (fun ρ' o' p => p)) (fun ρ' o' q => ?_)
    · obtain ⟨⟨x, rfl⟩, rfl⟩ := q
      have hp : p < m := by omega
      have hA := fm_le (aIn m ex) p 100 fun j hj => hai j (by omega)
      refine sx_extend (es := (aIn m ex p).map Wd) (ed_is (ed_lcLm (xs := listsOf (m - p) ex) L (fun ns => Wd ((p : Int), ns)) (ed_call0 (ea_cons (ed_sub (c := ((m - p : Nat) : Int)) (ed_var rfl) (ed_var rfl) (by omega)) (ea_cons (ed_var rfl) ea_nil)) ⟨m - p, ex, by omega, by omega, by omega, rfl, rfl⟩) (by have := hls p hp; omega) (by decide) (fun d => .tuple [.int (p : Int), d]) (fun ns _ => rfl) (fun ns _ => ?_)) ?_) ?_ ⟨⟨_, rfl⟩, ?_⟩
      · exact ed_tup (ea_cons (ed_var rfl) (ea_cons (ed_var rfl) ea_nil)) (by show 2 ≤ 100000; decide)
      · unfold aIn
        rw [List.map_map]
        rfl
      · have := hai p hp
        rw [List.length_map, List.length_map]
        omega
      · rw [fm_succ, List.map_append]
    · obtain ⟨⟨x, rfl⟩, rfl⟩ := q
      have hA := fm_le (aIn m ex) m 100 hai
      refine sx_freeze (sx_ret (ed_cb (ea_cons (ed_var rfl) ea_nil) (rc_sortW ((List.range (m : Int).toNat).flatMap (aIn m ex)) ?_)) ?_)
      · rw [Int.toNat_natCast]; omega
      · unfold allWords
        rw [if_neg b, Int.toNat_natCast]
        rfl
abbrev Rwords_of := Rall_words
abbrev spwords_of : Sp := spD Rall_words
theorem words_of_len (ds d) (h : Rall_words ds d) : ds.length = 2 := all_words_len ds d h
abbrev swords_of : Stmt := top 32
abbrev nmwords_of : List Str := ["many", "excess"]
theorem scwords_of : FnScope nmwords_of ["many", "excess"] (defScope swords_of) := ⟨rfl, rfl, rfl, by decide +kernel, rfl, by decide +kernel, by decide +kernel⟩
theorem okwords_of {k : Nat} {f : Addr} {fd : FuncData} (F : Fun K "words_of" "words_of" swords_of f fd) (c_all_words : Cal P w K mg base k "all_words" ["many", "excess"] spall_words) (c_want_at_most : Cal P w K mg base k "want_at_most" ["what", "limit", "number"] spwant_at_most) (c_want_two : Cal P w K mg base k "want_two" ["many", "excess"] spwant_two) (m_MOST_LISTED : ∃ t, mg "MOST_LISTED" = some (.int 7 t)) :
    FnOk P w K mg base CX0 (k + 1) f fd ["many", "excess"] spwords_of := by
  have nd := scwords_of.nd
  obtain ⟨f_all_words, fd_all_words, G_all_words, g_all_words, k_all_words, b_all_words⟩ := c_all_words.ex
  obtain ⟨f_want_at_most, fd_want_at_most, G_want_at_most, g_want_at_most, k_want_at_most, b_want_at_most⟩ := c_want_at_most.ex
  obtain ⟨f_want_two, fd_want_two, G_want_two, g_want_two, k_want_two, b_want_two⟩ := c_want_two.ex
  refine F.ok scwords_of (spD_len words_of_len) (fun cdv A outer s H vs Q E hr h => ?_)
  refine ⟨_, (pss_cons (ps_expr (pe_call G_want_two hr (by rfl) g_want_two k_want_two b_want_two .nil pass0 (pa_cons (pv 0) (pa_cons (pv 1) pa_nil))))
      (pss_cons (ps_if (pt_cmpR (eqK K hr.units) (pv 1) pe_int (nomark _)) (pss_one (ps_expr (pe_call G_want_at_most hr (by rfl) g_want_at_most k_want_at_most b_want_at_most .nil pass0 (pa_cons pe_str (pa_cons (pe_glob (v := .int 7) rfl m_MOST_LISTED.choose_spec ⟨_, rfl⟩) (pa_cons (pv 0) pa_nil)))))) pss_nil)
      (pss_one (ps_ret (pe_call G_all_words hr (by rfl) g_all_words k_all_words b_all_words .nil pass0 (pa_cons (pv 0) (pa_cons (pv 1) pa_nil))))))), sx_def h ?_⟩
  rintro _ _ ⟨m, ex, h1, h9, hx, rfl, rfl⟩
  refine q_drop (ed_call0 (ea_cons (ed_var rfl) (ea_cons (ed_var rfl) ea_nil)) ⟨m, ex, h1, h9, by omega, rfl, rfl⟩) ?_
  refine q_ifDo (et_test (ed_eqI (ed_var rfl) (ed_int 2))) (fun b => ?_) ?_
  · have b : ex = 2 := by have := beq_iff_eq.mp b; omega
    exact sx_drop (ed_call0 (ea_cons (ed_str _) (ea_cons (ed_int 7) (ea_cons (ed_var rfl) ea_nil))) ⟨_, 7, m, by omega, rfl, rfl⟩) ⟨rfl, rfl⟩
  · exact sx_ret (ed_call0 (ea_cons (ed_var rfl) (ea_cons (ed_var rfl) ea_nil)) ⟨m, ex, h1, h9, hx, rfl, rfl⟩) rfl
def Rword_count (ds : List PyData) (d : PyData) : Prop := ∃ (m ex : Nat), 2 ≤ m ∧ m ≤ 9 ∧ (ex = 0 ∨ ex = 1 ∨ (ex = 2 ∧ m ≤ 7)) ∧ ds = [.int m, .int ex] ∧ d = .int ((allWords m ex).length : Nat)
abbrev spword_count : Sp := spD Rword_count
theorem word_count_len (ds d) (h : Rword_count ds d) : ds.length = 2 := by obtain ⟨t, ex, _, _, _, rfl, _⟩ := h; rfl
abbrev sword_count : Stmt := top 33
abbrev nmword_count : List Str := ["many", "excess"]
theorem scword_count : FnScope nmword_count ["many", "excess"] (defScope sword_count) := ⟨rfl, rfl, rfl, by decide +kernel, rfl, by decide +kernel, by decide +kernel⟩
theorem okword_count {k : Nat} {f : Addr} {fd : FuncData} (F : Fun K "word_count" "word_count" sword_count f fd) (c_words_of : Cal P w K mg base k "words_of" ["many", "excess"] spwords_of) (m_len : mg "len" = none) :
    FnOk P w K mg base CX0 (k + 1) f fd ["many", "excess"] spword_count := by
  have nd := scword_count.nd
  obtain ⟨f_words_of, fd_words_of, G_words_of, g_words_of, k_words_of, b_words_of⟩ := c_words_of.ex
  refine F.ok scword_count (spD_len word_count_len) (fun cdv A outer s H vs Q E hr h => ?_)
  refine ⟨_, (pss_one (ps_ret (pe_callB (lenK K) (by rfl) m_len (by decide +kernel) (pa_cons (pe_call G_words_of hr (by rfl) g_words_of k_words_of b_words_of .nil pass0 (pa_cons (pv 0) (pa_cons (pv 1) pa_nil))) pa_nil)))), sx_def h ?_⟩
  rintro _ _ ⟨m, ex, h1, h9, hx, rfl, rfl⟩
  exact sx_ret (ed_len (ed_call0 (ea_cons (ed_var rfl) (ea_cons (ed_var rfl) ea_nil)) ⟨m, ex, h1, h9, hx, rfl, rfl⟩) (List.length_map _)) rfl
end
end DL

/-! MirA: the sorted list, computed; the facts of the lists of words. -/
namespace DL
open PySem L2
theorem wLe_iff (p q : Int × List Int) : wLe p q = true ↔ p.1 < q.1 ∨ (p.1 = q.1 ∧ p.2 ≤ q.2) := by
  unfold wLe wLt
  by_cases h : q.1 = p.1
  · rw [if_pos h, ← lexLt_eq]
    constructor
    · intro z
      refine .inr ⟨h.symm, ?_⟩
      have : ¬ q.2 < p.2 := by simpa using z
      exact List.not_lt.mp this
    · rintro (z | ⟨_, z⟩)
      · omega
      · have : ¬ q.2 < p.2 := List.not_lt.mpr z
        simpa using this
  · rw [if_neg h]
    constructor
    · intro z
      have : ¬ q.1 < p.1 := by simpa using z
      exact .inl (by omega)
    · rintro (z | ⟨z, _⟩)
      · have : ¬ q.1 < p.1 := by omega
        simpa using this
      · exact absurd z.symm h
theorem wLe_trans (p q r : Int × List Int) (a : wLe p q = true) (b : wLe q r = true) : wLe p r = true := by
  rw [wLe_iff] at a b ⊢
  rcases a with a | ⟨a, a2⟩
  · rcases b with b | ⟨b, b2⟩
    · exact .inl (by omega)
    · exact .inl (by omega)
  · rcases b with b | ⟨b, b2⟩
    · exact .inl (by omega)
    · exact .inr ⟨by omega, List.le_trans a2 b2⟩
theorem wLe_total (p q : Int × List Int) : (wLe p q || wLe q p) = true := by
  rw [Bool.or_eq_true, wLe_iff, wLe_iff]
  rcases List.le_total p.2 q.2 with h | h
  · by_cases e : p.1 < q.1
    · exact .inl (.inl e)
    · by_cases e2 : p.1 = q.1
      · exact .inl (.inr ⟨e2, h⟩)
      · exact .inr (.inl (by omega))
  · by_cases e : q.1 < p.1
    · exact .inr (.inl e)
    · by_cases e2 : p.1 = q.1
      · exact .inr (.inr ⟨e2.symm, h⟩)
      · exact .inl (.inl (by omega))
theorem wLe_anti (p q : Int × List Int) (a : wLe p q = true) (b : wLe q p = true) : p = q := by
  rw [wLe_iff] at a b
  rcases a with a | ⟨a, a2⟩
  · rcases b with b | ⟨b, b2⟩ <;> omega
  · rcases b with b | ⟨b, b2⟩
    · omega
    · exact Prod.ext a (List.le_antisymm a2 b2)
def ins (x : Int × List Int) : List (Int × List Int) → List (Int × List Int)
  | [] => [x]
  | y :: r => if wLe x y then x :: y :: r else y :: ins x r
def isort : List (Int × List Int) → List (Int × List Int)
  | [] => []
  | x :: r => ins x (isort r)
theorem ins_perm (x : Int × List Int) : ∀ l, (ins x l).Perm (x :: l)
  | [] => List.Perm.refl _
  | y :: r => by
    unfold ins
    split
    · exact List.Perm.refl _
    · exact ((ins_perm x r).cons y).trans (List.Perm.swap x y r)
theorem isort_perm : ∀ l, (isort l).Perm l
  | [] => List.Perm.refl _
  | x :: r => (ins_perm x (isort r)).trans ((isort_perm r).cons x)
theorem ins_sorted (x : Int × List Int) : ∀ l, List.Pairwise (fun a b => wLe a b = true) l → List.Pairwise (fun a b => wLe a b = true) (ins x l)
  | [], _ => List.pairwise_singleton _ _
  | y :: r, h => by
    obtain ⟨h1, h2⟩ := List.pairwise_cons.mp h
    unfold ins
    split
    · rename_i q
      refine List.pairwise_cons.mpr ⟨fun z hz => ?_, h⟩
      rcases List.mem_cons.mp hz with e | e
      · rw [e]; exact q
      · exact wLe_trans x y z q (h1 z e)
    · rename_i q
      have q2 : wLe y x = true := by
        have t := wLe_total x y
        rw [Bool.or_eq_true] at t
        rcases t with t | t
        · exact absurd t q
        · exact t
      refine List.pairwise_cons.mpr ⟨fun z hz => ?_, ins_sorted x r h2⟩
      rcases List.mem_cons.mp ((ins_perm x r).mem_iff.mp hz) with e | e
      · rw [e]; exact q2
      · exact h1 z e
theorem isort_sorted : ∀ l, List.Pairwise (fun a b => wLe a b = true) (isort l)
  | [] => List.Pairwise.nil
  | x :: r => ins_sorted x _ (isort_sorted r)
theorem sort_eq (l : List (Int × List Int)) : l.mergeSort wLe = isort l :=
  List.Perm.eq_of_pairwise (le := fun a b => wLe a b = true) (fun a b _ _ h1 h2 => wLe_anti a b h1 h2) (List.pairwise_mergeSort wLe_trans wLe_total l) (isort_sorted l) ((List.mergeSort_perm l wLe).trans (isort_perm l).symm)
theorem sort_id {l : List (Int × List Int)} (h : isort l = l) : l.mergeSort wLe = l := (sort_eq l).trans h
def wordsC (m ex : Nat) : List (Int × List Int) := if ex = 0 then [((m : Int), [])] else isort (allFound m ex)
theorem words_eq (m ex : Nat) : allWords m ex = wordsC m ex := by
  unfold allWords wordsC
  rw [sort_eq]
theorem words_sorted (m ex : Nat) : (wordsC m ex).mergeSort wLe = wordsC m ex := by
  unfold wordsC
  split
  · exact List.mergeSort_of_pairwise (List.pairwise_singleton _ _)
  · exact List.mergeSort_of_pairwise (isort_sorted _)
theorem w7 : (wordsC 7 2).length = 31 := by decide +kernel
theorem w6 : (wordsC 6 2).length = 7 := by decide +kernel
theorem w5 : wordsC 5 2 = [(0, [0, 1, 0, 1, 0, 1, 0, 1, 0, 1])] := by decide +kernel
end DL

/-! MirB: the law's own helpers as plain functions, and what they say of the lists of words. -/
namespace DL
open PySem L2
def lawLeastTo (ns : List Int) (i : Nat) : List Int := (List.range i).foldl (fun f k => minL f [rot ns k, rot ns.reverse k]) ns
def lawLeast (ns : List Int) : List Int := lawLeastTo ns ns.length
theorem lawLeast_succ (ns : List Int) (i : Nat) : lawLeastTo ns (i + 1) = minL (lawLeastTo ns i) [rot ns i, rot ns.reverse i] := by
  unfold lawLeastTo
  rw [List.range_succ, List.foldl_append]
  rfl
def sumFrom (ns : List Int) (a m : Nat) : Int := ((List.range m).map fun s => at_ ns ((a + s) % ns.length)).sum
def lawMerges (ns : List Int) (a : Nat) : Bool :=
  if (at_ ns a == 0) || (at_ ns ((a + 1) % ns.length) == 0) then false
  else (at_ ns ((a + ns.length / 2) % ns.length) == 0) && (at_ ns ((a + ns.length / 2 + 1) % ns.length) == 0)
def lawF1 (ns : List Int) : List Int := ((List.range (ns.length / 2)).filter fun a => (at_ ns a == 0) && (at_ ns (a + ns.length / 2) == 0)).map fun (a : Nat) => (a : Int)
def lawF2 (ns : List Int) : List Int := ((List.range ns.length).filter fun a => lawMerges ns a).map fun (a : Nat) => (a : Int)
def lawF3 (ns : List Int) : List Int := ((List.range ns.length).filter fun a => decide (sumFrom ns a (ns.length / 2 - 1) < 2)).map fun (a : Nat) => (a : Int)
def lawIsRound (ns : List Int) : Bool :=
  if decide (ns.length < 4) || (!(ns.length == 2 * (ns.length / 2)) || !(lawF1 ns == [])) then false
  else if !(lawF2 ns == []) then false else (lawF3 ns == [])
/-! few -/
def dueIn (m p i : Nat) : List (Int × List Int) := if p + 2 * (i + 2) ≤ m then [((p : Int), [((i + 2 : Nat) : Int), ((m - p - (i + 2) : Nat) : Int)])] else []
def due (m : Nat) : List (Int × List Int) := (List.range m).flatMap fun p => (List.range (m - 2)).flatMap (dueIn m p)
theorem few_ok : ∀ m, m < 10 → 2 ≤ m → wordsC m 1 = isort (due m) ∧ (wordsC m 1).length = (due m).length ∧ (due m).length = (m - 2) * (m - 2) / 4 ∧ (due m).length ≤ 100 := by decide +kernel
/-! two -/
def okW (m : Nat) (x : Int × List Int) : Bool := decide (0 ≤ x.1) && (x.2.all fun n => decide (0 ≤ n)) && decide (3 ≤ x.2.length) && decide (x.2.length ≤ 100) && (x.1 + x.2.sum == (m : Int)) && lawIsRound x.2 && (lawLeast x.2 == x.2) && fitsM x.1 x.2
where fitsM (p : Int) (ns : List Int) : Bool := if 9 < p + ns.sum then false else ((ns.length % 2 == 0) && (isRound ns && (least ns == ns)))
def noTwin : List (Int × List Int) → Bool
  | [] => true
  | [_] => true
  | a :: b :: r => !(a == b) && noTwin (b :: r)
def cnt (m : Nat) : Nat := [0, 0, 0, 1, 7, 31].getD (m - 2) 0
def cntP (m : Nat) : Nat := [0, 0, 0, 1, 6, 24].getD (m - 2) 0
theorem two_ok : ∀ m, m < 8 → 2 ≤ m → (wordsC m 2).all (okW m) = true ∧ noTwin (wordsC m 2) = true ∧ (wordsC m 2).length = cnt m ∧ ((wordsC m 2).filter fun x => x.1 == 0).length = cntP m := by decide +kernel
/-! drawn -/
def bases : List (List Int) := [[0, 1, 0, 1, 0, 1, 0, 1, 0, 1], [0, 2, 0, 2, 0, 2], [1, 1, 1, 1, 1, 1], [0, 1, 1, 0, 1, 1, 0, 2], [0, 1, 1, 0, 1, 1, 1, 1], [0, 2, 1, 1, 1, 2], [2, 2, 2, 2]]
def base5 : List Int := [0, 1, 0, 1, 0, 1, 0, 1, 0, 1]
def baseOf (m : Nat) (b : List Int) : List Int := if b.sum ≤ (m : Int) then b else base5
/-- all lists that come of k ones put in anywhere -/
def adds : Nat → List Int → List (List Int)
  | 0, ns => [ns]
  | k + 1, ns => (List.range ns.length).flatMap fun i => adds k (ns.set i (at_ ns i + 1))
def drawnOk (m : Nat) : Bool := bases.all fun b0 => (List.range (m + 1)).all fun pk => let b := baseOf m b0
  decide ((pk : Int) + b.sum ≤ (m : Int)) |> fun c => !c || (adds ((m : Int) - pk - b.sum).toNat b).all fun ns => (wordsC m 2).any fun x => (x.1 == (pk : Int)) && (x.2 == lawLeast ns)
theorem drawn_ok5 : drawnOk 5 = true := by decide +kernel
theorem drawn_ok6 : drawnOk 6 = true := by decide +kernel
theorem drawn_ok7 : drawnOk 7 = true := by decide +kernel
end DL

/-! W5: the law's helpers that touch no pot. -/
namespace L2
section
open PySem
variable {X : Cx} {CX : CXT} {k : Nat} {f : Addr} {fd : FuncData} {ps ks : List Str} {sp : Sp} {E : XK} {x : Str} {p pos : Pos} {kws : List Keyword} {tk : TA} {g : List Value → List Value → List Value} {gV : List V → List V → List V}
/-- f(k = v, ..) -/
theorem pe_callK0 (F : FnOk X.prog X.w X.K X.mg X.base CX k f fd ps sp) (hr : Room k X.A) (hg : Gl X x) (hm : X.mg x = some (.ref f)) (hk : PySem.W.keepIn X.K (.ref f) = true) (hb : KBinds X.K fd ps ks g gV) (hx : Passes CX X E) (hkw : PK X kws tk)
    (hall : (backToKw pos (keywordEach kws X.env)).all (·.1.isSome) = true := by rfl) (hks : (backToKw pos (keywordEach kws X.env)).filterMap (·.1) = ks := by rfl)
    (hdb : (x == ("__debug__" : Str)) = false := by decide) (hpl : ((backTo pos (starEach [] X.env)).any (·.1) || (backToKw pos (keywordEach kws X.env)).any (·.1.isNone)) = false := by rfl) :
    PE X (.Call (.Name x p) [] kws pos) (tCallK sp gV E tNil tk) := by
  refine ⟨fun pins s σ H Q I h => ?_⟩
  refine wpAny_Call_Name_kw (ld_glob I hg hm ?_ hdb)
  refine PySem.W.callWith_KW0 (h₀ := X.base) I.ok.mod.kin hk hall ?_ hpl
  refine thn (hkw.run pos pins s σ H _ I h) fun ws s2 ⟨zs, H2, I2, rz, q2⟩ => ⟨I2.kIn, ?_⟩
  rw [hks]
  exact run_fnk (us := []) (vs := []) F hr hb hx I2 .nil rz q2
end
end L2
namespace DL
open PySem L2
open Evl (Ex)
def gSame {α : Type} (vs us : List α) : List α := match vs with
  | [] => us
  | _ => []
def gSwap {α : Type} (vs us : List α) : List α := match vs with
  | [] => us.reverse
  | _ => []
structure CalK (P : Program) (w : World) (K : PySem.W.Frag) (mg : Str → Option Value) (base : Heap) (k : Nat) (x : Str) (ps ks : List Str) (gV : List V → List V → List V) (sp : Sp) : Prop where
  ex : ∃ f fd g, FnOk P w K mg base CX0 k f fd ps sp ∧ mg x = some (.ref f) ∧ PySem.W.keepIn K (.ref f) = true ∧ KBinds K fd ps ks g gV
section
variable {K : PySem.W.Frag} {ρ : DE} {o : Own} {nx : DE → Own → Prop} {rt : PyData → Prop} {te ta tb : TE} {tr : TA} {u : TS} {R' : List PyData → PyData → Prop} {E : XK}
theorem rc_int {i : Int} : RCD (fun xs H Q => (∃ i, xs = [V.int i] ∧ Q (V.int i) H) ∨ ∃ k, xs = [V.bl k] ∧ Q (V.int (if k then 1 else 0)) H) [.int i] (.int i) := fun G H vs e h Q q => by
  rw [DrA.ints (ns := [i]) h]
  exact .inl ⟨i, rfl, q _ G H (Gw.refl e) (.int _)⟩
theorem ed_toInt {i : Int} (h : ED ta ρ (.int i)) : ED (tCB (fun xs H Q => (∃ i, xs = [V.int i] ∧ Q (V.int i) H) ∨ ∃ k, xs = [V.bl k] ∧ Q (V.int (if k then 1 else 0)) H) (tCons ta tNil)) ρ (.int i) := ed_cb (ea_cons h ea_nil) rc_int
theorem ed_mul {a b c : Int} (ha : ED ta ρ (.int a)) (hb : ED tb ρ (.int b)) (hc : CMul a b) (e : a * b = c) : ED (tOp (rI CMul fun i j => .int (i * j)) ta tb) ρ (.int c) := e ▸ ed_op ha hb (rd_IC hc)
/-- f(ints).append(None): the list is new, nothing known changes -/
theorem q_popApp {ns : List Int} {ds : List PyData} (h : EA tr ρ (ns.map PyData.int)) (hr : R' (ns.map PyData.int) (.list ds)) (hl : ds.length < 50000) (k : SX u ρ o nx rt) :
    SX (tSeq (tDrop (tBM K "list" rAppend (tCall (spD R') [] E tr) (tCons (tC .non) tNil))) u) ρ o nx rt := by
  refine q_of (ρ1 := ρ) (o1 := o) (fun G0 H0 B D hn hr' σ H s => ?_) k
  obtain ⟨G, g, b, R, w⟩ := s.ex
  refine h G H σ g.gh R _ fun vs G1 H1 g1 d1 => ?_
  refine ⟨fun _ => none, ns.map PyData.int, .list ds, fun a o z => (by cases z), by rw [List.append_nil, d1.ints]; exact DrA.of_ints ns, hr, fun v G2 H2 g2 d2 => ?_⟩
  cases d2 with
  | @lst l xs _ ha hd =>
    have hl1 : H1 l = none := by
      cases q : H1 l with
      | none => rfl
      | some u =>
        have := g2.fz l (by rw [q]; intro z; cases z) rfl
        rw [this] at ha
        cases ha
    have g01 := g.trans g1
    refine ⟨.inl ⟨rfl, xs, Evl.sq_of (g2.gh _ _ ha)⟩, l, xs, .non, rfl, rfl, g2.gh _ _ ha, Evl.sz_lt (by rw [hd.len]; omega), hn _ _ _ _ ⟨rfl, rfl⟩ ⟨G1, ⟨g01.gg, fun a u q => ?_, fun a u q => ?_, g01.fz⟩, b.trans g1.gg, R.mono g1.gg, ?_⟩⟩
    · have q1 := g1.gh a u q
      rw [upd_ne (ne_of_none q1 hl1)]
      exact g2.hh a u q1
    · have q1 := g01.hh a u q
      rw [upd_ne (ne_of_none q1 hl1)]
      exact g2.hh a u q1
    · have w1 := w.grow g1
      cases o with
      | none => exact trivial
      | some y =>
        obtain ⟨j, es⟩ := y
        obtain ⟨p, zs, a1, a2, a3, a4, a5⟩ := w1
        refine ⟨p, zs, a1, ?_, a3, a4, a5⟩
        rw [upd_ne (ne_of_none a2 hl1)]
        exact g2.hh _ _ a2
end
theorem natBeq (a b : Nat) : ((a : Int) == (b : Int)) = (a == b) := by
  cases h : (a == b) with
  | true => rw [beq_iff_eq] at h ⊢; omega
  | false => rw [beq_eq_false_iff_ne] at h ⊢; omega
section
variable {P : Program} {w : World} {K : PySem.W.Frag} {mg : Str → Option Value} {base : Heap}
def R_law_least (ds : List PyData) (d : PyData) : Prop := ∃ (ns : List Int), ns.length ≤ 100 ∧ ds = [L ns] ∧ d = L (lawLeast ns)
abbrev sp_law_least : Sp := spD R_law_least
theorem _law_least_len (ds d) (h : R_law_least ds d) : ds.length = 1 := by obtain ⟨t, _, rfl, _⟩ := h; rfl
theorem ed_rot {tl th : TE} {ρ : DE} {ns : List Int} {k : Nat} (h1 : ED tl ρ (L ns)) (h2 : ED th ρ (.int (k : Int))) (hk : k ≤ ns.length) (hl : ns.length ≤ 1000) :
    ED (tOp rCat (tSl (rSlL K) tl (tPart th) tNoPart) (tSl (rSlL K) tl tNoPart (tPart th))) ρ (L (rot ns k)) := by
  have e1 : cutD (ns.map PyData.int) (some (k : Int)) none ++ cutD (ns.map PyData.int) none (some (k : Int)) = (rot ns k).map PyData.int := by
    rw [cutD_map, cutD_map, cutD_from _ _ hk, cutD_to _ _ hk, ← List.map_append]
    rfl
  rw [show L (rot ns k) = .list _ from congrArg PyData.list e1.symm]
  refine ed_op (ed_sl h1 (eo_some h2) eo_none) (ed_sl h1 eo_none (eo_some h2)) (rd_cat ?_)
  rw [cutD_map, cutD_map, cutD_from _ _ hk, cutD_to _ _ hk, List.length_map, List.length_map, List.length_drop, List.length_take]
  omega
abbrev s_law_least : Stmt := top 38
abbrev nm_law_least : List Str := ["_law_numbers", "_law_found", "_law_back", "_law_at"]
theorem sc_law_least : FnScope nm_law_least ["_law_numbers"] (defScope s_law_least) := ⟨rfl, rfl, rfl, by decide +kernel, rfl, by decide +kernel, by decide +kernel⟩
theorem ok_law_least {k : Nat} {f : Addr} {fd : FuncData} (F : Fun K "_law_least" "_law_least" s_law_least f fd) (m_range : mg "range" = none) (m_len : mg "len" = none) (m_min : mg "min" = none) (m_list : mg "list" = none) :
    FnOk P w K mg base CX0 (k + 1) f fd ["_law_numbers"] sp_law_least := by
  have nd := sc_law_least.nd
  refine F.ok sc_law_least (spD_len _law_least_len) (fun cdv A outer s H vs Q E hr h => ?_)
  refine ⟨_, (pss_cons (ps_par (i := 1) (j := 2) (by rfl) nd rfl rfl (by decide) rfl rfl (pa_cons (pe_callTy (listK K) (by rfl) m_list (by decide +kernel) (pa_cons (pv 0) pa_nil)) (pa_cons (revK K (pe_callTy (listK K) (by rfl) m_list (by decide +kernel) (pa_cons (pv 0) pa_nil))) pa_nil)) (by rfl))
      (pss_cons (ps_for PassesOwn.never rfl (pi_range1 (by rfl) m_range (pa_cons (pe_callB (lenK K) (by rfl) m_len (by decide +kernel) (pa_cons (pv 0) pa_nil)) pa_nil)) (pg_name (i := 3) nd rfl (Or.inl rfl)) (pss_one (ps_set (i := 1) nd rfl (Or.inl rfl) (pe_callB (min3K K rfl hr.units) (by rfl) m_min (by decide +kernel) (pa_cons (pv 1) (pa_cons (pe_op op_cat (pe_slice (slK K) (pv 0) (po_some (pv 3)) po_none) (pe_slice (slK K) (pv 0) po_none (po_some (pv 3)))) (pa_cons (pe_op op_cat (pe_slice (slK K) (pv 2) (po_some (pv 3)) po_none) (pe_slice (slK K) (pv 2) po_none (po_some (pv 3)))) pa_nil)))))))
      (pss_one (ps_ret (pv 1))))), sx_def h ?_⟩
  rintro _ _ ⟨ns, h2, rfl, rfl⟩
  have hl : (ns.map PyData.int).length = ns.length := List.length_map _
  refine q_par (x := L ns) (y := L ns.reverse) (ea_cons (ed_cb (ea_cons (ed_var rfl) ea_nil) rc_list) (ea_cons (ed_is (ed_rev (ed_cb (ea_cons (ed_var rfl) ea_nil) rc_list)) (by show PyData.list _ = PyData.list _; rw [List.map_reverse])) ea_nil)) trivial trivial ?_
  refine sx_seq (sx_forR (n := (ns.length : Int)) (fun i ρ' o' => (∃ x, ρ' = [some (L ns), some (L (lawLeastTo ns i)), some (L ns.reverse), x]) ∧ o' = none) (ea_cons (ed_len (ed_var rfl) hl) ea_nil) (by omega) ⟨⟨none, rfl⟩, rfl⟩ (fun _ _ _ p => by rw [p.2]; trivial) (fun i ρ' o' hi p => ?_) (fun ρ' o' p => p)) (fun ρ' o' p => ?_)
  · obtain ⟨⟨x, rfl⟩, rfl⟩ := p
    have hi : i < ns.length := by omega
    refine sx_asg (d := L (lawLeastTo ns (i + 1))) ?_ trivial ⟨⟨_, rfl⟩, rfl⟩
    rw [lawLeast_succ]
    exact ed_cb (ea_cons (ed_var rfl) (ea_cons (ed_rot (ed_var rfl) (ed_var rfl) (by omega) (by omega)) (ea_cons (ed_rot (ed_var rfl) (ed_var rfl) (by rw [List.length_reverse]; omega) (by rw [List.length_reverse]; omega)) ea_nil))) (rc_min3 _ _ _)
  · obtain ⟨⟨x, rfl⟩, rfl⟩ := p
    exact sx_ret (ed_var rfl) rfl
def R_law_sum_from (ds : List PyData) (d : PyData) : Prop := ∃ (ns : List Int) (a m : Nat), 1 ≤ ns.length ∧ ns.length ≤ 100 ∧ m ≤ 100 ∧ ds = [L ns, .int a, .int m] ∧ d = .int (sumFrom ns a m)
abbrev sp_law_sum_from : Sp := spD R_law_sum_from
theorem _law_sum_from_len (ds d) (h : R_law_sum_from ds d) : ds.length = 3 := by obtain ⟨ns, a, m, _, _, _, rfl, _⟩ := h; rfl
abbrev s_law_sum_from : Stmt := top 39
abbrev nm_law_sum_from : List Str := ["_law_numbers", "_law_at", "_law_many", "_law_step"]
theorem sc_law_sum_from : FnScope nm_law_sum_from ["_law_numbers", "_law_at", "_law_many"] (defScope s_law_sum_from) := ⟨rfl, rfl, rfl, by decide +kernel, rfl, by decide +kernel, by decide +kernel⟩
theorem ok_law_sum_from {k : Nat} {f : Addr} {fd : FuncData} (F : Fun K "_law_sum_from" "_law_sum_from" s_law_sum_from f fd) (m_sum : mg "sum" = none) (m_range : mg "range" = none) (m_int : mg "int" = none) (m_len : mg "len" = none) :
    FnOk P w K mg base CX0 (k + 1) f fd ["_law_numbers", "_law_at", "_law_many"] sp_law_sum_from := by
  have nd := sc_law_sum_from.nd
  refine F.ok sc_law_sum_from (spD_len _law_sum_from_len) (fun cdv A outer s H vs Q E hr h => ?_)
  refine ⟨_, (pss_one (ps_ret (pe_callB (sumK K rfl) (by rfl) m_sum (by decide +kernel) (pa_cons (pe_lc (own := [("_law_step", 3)]) rfl nd (pi_range1 (by rfl) m_range (pa_cons (pv 2) pa_nil)) (blkOk_by (own := [("_law_step", 3)]) (N := nm_law_sum_from) (sc := defScope s_law_sum_from) (by decide +kernel)) (fun _ _ _ _ _ => (pg_name (i := 3) nd rfl (Or.inl rfl))) (fun _ _ _ _ _ => pts_nil) (fun _ _ _ _ _ => (pe_ix (ixLK K) (pv 0) (pe_op op_modN (pe_callTy call_int1 (by rfl) m_int (by decide +kernel) (pa_cons (pe_op op_add (pv 1) (pv 3)) pa_nil)) (pe_callB (lenK K) (by rfl) m_len (by decide +kernel) (pa_cons (pv 0) pa_nil))) (fun _ _ => rfl)))) pa_nil)))), sx_def h ?_⟩
  rintro _ _ ⟨ns, a, m, h0, h2, h3, rfl, rfl⟩
  have hl : (ns.map PyData.int).length = ns.length := List.length_map _
  refine sx_ret (ed_cb (ea_cons (ed_is (ed_lcRm (n := m) (fun s => .int (at_ ns ((a + s) % ns.length))) (ea_cons (ed_var rfl) ea_nil) (by omega) (by decide) (fun i hi => ?_)) ?_) ea_nil) (rc_sum (ns := (List.range m).map fun s => at_ ns ((a + s) % ns.length)))) rfl
  · exact ed_at _ (ed_var rfl) (ed_mod (a + i) ns.length (ed_toInt (ed_add (ed_var rfl) (ed_var rfl) rfl)) (ed_len (ed_var rfl) hl) (by omega) rfl (by omega)) rfl (Nat.mod_lt _ (by omega))
  · show PyData.list _ = PyData.list _
    rw [List.map_map]
    rfl
def R_law_merges (ds : List PyData) (d : PyData) : Prop := ∃ (ns : List Int) (a : Nat), a < ns.length ∧ ns.length ≤ 100 ∧ ds = [L ns, .int a] ∧ d = .bool (lawMerges ns a)
abbrev sp_law_merges : Sp := spD R_law_merges
theorem _law_merges_len (ds d) (h : R_law_merges ds d) : ds.length = 2 := by obtain ⟨ns, a, _, _, rfl, _⟩ := h; rfl
abbrev s_law_merges : Stmt := top 40
abbrev nm_law_merges : List Str := ["_law_numbers", "_law_at", "_law_half", "_law_most"]
theorem sc_law_merges : FnScope nm_law_merges ["_law_numbers", "_law_at"] (defScope s_law_merges) := ⟨rfl, rfl, rfl, by decide +kernel, rfl, by decide +kernel, by decide +kernel⟩
theorem ok_law_merges {k : Nat} {f : Addr} {fd : FuncData} (F : Fun K "_law_merges" "_law_merges" s_law_merges f fd) (m_int : mg "int" = none) (m_len : mg "len" = none) :
    FnOk P w K mg base CX0 (k + 1) f fd ["_law_numbers", "_law_at"] sp_law_merges := by
  have nd := sc_law_merges.nd
  refine F.ok sc_law_merges (spD_len _law_merges_len) (fun cdv A outer s H vs Q E hr h => ?_)
  refine ⟨_, (pss_cons (ps_par (i := 2) (j := 3) (by rfl) nd rfl rfl (by decide) rfl rfl (pa_cons (pe_op op_fdivN (pe_callB (lenK K) (by rfl) m_len (by decide +kernel) (pa_cons (pv 0) pa_nil)) pe_int) (pa_cons (pe_callB (lenK K) (by rfl) m_len (by decide +kernel) (pa_cons (pv 0) pa_nil)) pa_nil)) (by rfl))
      (pss_cons (ps_if (PW.pt (pw_or (pt_cmpR (eqK K hr.units) (pe_ix (ixLK K) (pv 0) (pv 1) (fun _ _ => rfl)) pe_int (nomark _)) (pw_or1 (pt_cmpR (eqK K hr.units) (pe_ix (ixLK K) (pv 0) (pe_op op_modN (pe_callTy call_int1 (by rfl) m_int (by decide +kernel) (pa_cons (pe_op op_add (pv 1) pe_int) pa_nil)) (pv 3)) (fun _ _ => rfl)) pe_int (nomark _))))) (pss_one (ps_ret pe_bl)) pss_nil)
      (pss_one (ps_ret (pe_and (pe_cmpR (eqK K hr.units) (pe_ix (ixLK K) (pv 0) (pe_op op_modN (pe_callTy call_int1 (by rfl) m_int (by decide +kernel) (pa_cons (pe_op op_add (pv 1) (pv 2)) pa_nil)) (pv 3)) (fun _ _ => rfl)) pe_int (nomark _)) (pe_one (pe_cmpR (eqK K hr.units) (pe_ix (ixLK K) (pv 0) (pe_op op_modN (pe_callTy call_int1 (by rfl) m_int (by decide +kernel) (pa_cons (pe_op op_add (pe_op op_add (pv 1) (pv 2)) pe_int) pa_nil)) (pv 3)) (fun _ _ => rfl)) pe_int (nomark _)))))))), sx_def h ?_⟩
  rintro _ _ ⟨ns, a, h1, h2, rfl, rfl⟩
  have hl : (ns.map PyData.int).length = ns.length := List.length_map _
  have h0 : ns.length ≠ 0 := by omega
  have md : ∀ k, k % ns.length < ns.length := fun k => Nat.mod_lt _ (by omega)
  refine q_par (ea_cons (ed_half ns.length (ed_len (ed_var rfl) hl) rfl) (ea_cons (ed_len (ed_var rfl) hl) ea_nil)) trivial trivial ?_
  refine q_ifRet (et_or (et_test (ed_eqI (ed_at a (ed_var rfl) (ed_var rfl) rfl h1) (ed_int 0))) fun _ => et_test (ed_eqI (ed_at _ (ed_var rfl) (ed_mod (a + 1) ns.length (ed_toInt (ed_add (ed_var rfl) (ed_int 1) rfl)) (ed_var rfl) (by omega) rfl h0) rfl (md _)) (ed_int 0))) (fun c => ?_) (fun c => ?_)
  · refine sx_ret (ed_bl false) ?_
    show PyData.bool false = PyData.bool (lawMerges ns a)
    unfold lawMerges
    rw [if_pos c]
  · refine sx_ret (ed_andV (ed_eqI (ed_at _ (ed_var rfl) (ed_mod (a + ns.length / 2) ns.length (ed_toInt (ed_add (ed_var rfl) (ed_var rfl) rfl)) (ed_var rfl) (by omega) rfl h0) rfl (md _)) (ed_int 0)) fun _ =>
      ed_eqI (ed_at _ (ed_var rfl) (ed_mod (a + ns.length / 2 + 1) ns.length (ed_toInt (ed_add (ed_add (ed_var rfl) (ed_var rfl) rfl) (ed_int 1) rfl)) (ed_var rfl) (by omega) rfl h0) rfl (md _)) (ed_int 0)) ?_
    unfold lawMerges
    rw [if_neg (by rw [c]; exact Bool.false_ne_true)]
def R_law_is_round (ds : List PyData) (d : PyData) : Prop := ∃ (ns : List Int), ns.length ≤ 100 ∧ ds = [L ns] ∧ d = .bool (lawIsRound ns)
abbrev sp_law_is_round : Sp := spD R_law_is_round
theorem _law_is_round_len (ds d) (h : R_law_is_round ds d) : ds.length = 1 := by obtain ⟨t, _, rfl, _⟩ := h; rfl
/-- [a for a in range(n) if ..] -/
theorem ed_lcRf {j : Nat} {vs : List Nat} {n : Nat} {tr : TA} {tt : TT} {te : TE} {ρ : DE} (p : Nat → Bool) (h : EA tr ρ [.int (n : Int)]) (hn : n < 50000) (hj : j ∈ vs)
    (ht : ∀ i : Nat, i < n → ET tt ((wipeD ρ vs).set j (some (.int (i : Int)))) (p i)) (he : ∀ i : Nat, i < n → ED te ((wipeD ρ vs).set j (some (.int (i : Int)))) (.int (i : Int))) :
    ED (tLc (iRng1 tr) (gName j) tt te vs) ρ (L (((List.range n).filter p).map fun (a : Nat) => (a : Int))) := by
  have q := ed_lcR (te := te) (tt := tt) p (fun i => .int (i : Int)) h (by omega) hj (fun i hi => ht i (by omega)) (fun i hi _ => he i (by omega))
  show ED _ ρ (.list _)
  rw [List.map_map]
  exact q
abbrev s_law_is_round : Stmt := top 41
abbrev nm_law_is_round : List Str := ["_law_numbers", "_law_half", "_law_at"]
theorem sc_law_is_round : FnScope nm_law_is_round ["_law_numbers"] (defScope s_law_is_round) := ⟨rfl, rfl, rfl, by decide +kernel, rfl, by decide +kernel, by decide +kernel⟩
theorem ok_law_is_round {k : Nat} {f : Addr} {fd : FuncData} (F : Fun K "_law_is_round" "_law_is_round" s_law_is_round f fd) (c__law_sum_from : Cal P w K mg base k "_law_sum_from" ["_law_numbers", "_law_at", "_law_many"] sp_law_sum_from) (c__law_merges : Cal P w K mg base k "_law_merges" ["_law_numbers", "_law_at"] sp_law_merges) (m_range : mg "range" = none) (m_len : mg "len" = none) :
    FnOk P w K mg base CX0 (k + 1) f fd ["_law_numbers"] sp_law_is_round := by
  have nd := sc_law_is_round.nd
  obtain ⟨f__law_sum_from, fd__law_sum_from, G__law_sum_from, g__law_sum_from, k__law_sum_from, b__law_sum_from⟩ := c__law_sum_from.ex
  obtain ⟨f__law_merges, fd__law_merges, G__law_merges, g__law_merges, k__law_merges, b__law_merges⟩ := c__law_merges.ex
  refine F.ok sc_law_is_round (spD_len _law_is_round_len) (fun cdv A outer s H vs Q E hr h => ?_)
  refine ⟨_, (pss_cons (ps_set (i := 1) nd rfl (Or.inr rfl) (pe_op op_fdivN (pe_callB (lenK K) (by rfl) m_len (by decide +kernel) (pa_cons (pv 0) pa_nil)) pe_int))
      (pss_cons (ps_if (PW.pt (pw_or (pt_cmpR op_lt (pe_callB (lenK K) (by rfl) m_len (by decide +kernel) (pa_cons (pv 0) pa_nil)) pe_int (nomark _)) (pw_or (pt_cmpR (neK K hr.units) (pe_callB (lenK K) (by rfl) m_len (by decide +kernel) (pa_cons (pv 0) pa_nil)) (pe_op op_mul pe_int (pv 1)) (nomark _)) (pw_or1 (pt_cmpR (neK K hr.units) (pe_lc (own := [("_law_at", 2)]) rfl nd (pi_range1 (by rfl) m_range (pa_cons (pv 1) pa_nil)) (blkOk_by (own := [("_law_at", 2)]) (N := nm_law_is_round) (sc := defScope s_law_is_round) (by decide +kernel)) (fun _ _ _ _ _ => (pg_name (i := 2) nd rfl (Or.inl rfl))) (fun _ _ _ _ _ => (pts_one (PW.pt (pw_and (pt_cmpR (eqK K hr.units) (pe_ix (ixLK K) (pv 0) (pv 2) (fun _ _ => rfl)) pe_int (nomark _)) (pw_and1 (pt_cmpR (eqK K hr.units) (pe_ix (ixLK K) (pv 0) (pe_op op_add (pv 2) (pv 1)) (fun _ _ => rfl)) pe_int (nomark _))))))) (fun _ _ _ _ _ => (pv 2))) (pe_lst pa_nil) (nomark _)))))) (pss_one (ps_ret pe_bl)) pss_nil)
      (pss_cons (ps_if (pt_cmpR (neK K hr.units) (pe_lc (own := [("_law_at", 2)]) rfl nd (pi_range1 (by rfl) m_range (pa_cons (pe_callB (lenK K) (by rfl) m_len (by decide +kernel) (pa_cons (pv 0) pa_nil)) pa_nil)) (blkOk_by (own := [("_law_at", 2)]) (N := nm_law_is_round) (sc := defScope s_law_is_round) (by decide +kernel)) (fun _ _ _ _ _ => (pg_name (i := 2) nd rfl (Or.inl rfl))) (fun _ _ _ _ _ => (pts_one (pt_val (pe_call G__law_merges hr (by rfl) g__law_merges k__law_merges b__law_merges .nil pass0 (pa_cons (pv 0) (pa_cons (pv 2) pa_nil)))))) (fun _ _ _ _ _ => (pv 2))) (pe_lst pa_nil) (nomark _)) (pss_one (ps_ret pe_bl)) pss_nil)
      (pss_one (ps_ret (pe_cmpR (eqK K hr.units) (pe_lc (own := [("_law_at", 2)]) rfl nd (pi_range1 (by rfl) m_range (pa_cons (pe_callB (lenK K) (by rfl) m_len (by decide +kernel) (pa_cons (pv 0) pa_nil)) pa_nil)) (blkOk_by (own := [("_law_at", 2)]) (N := nm_law_is_round) (sc := defScope s_law_is_round) (by decide +kernel)) (fun _ _ _ _ _ => (pg_name (i := 2) nd rfl (Or.inl rfl))) (fun _ _ _ _ _ => (pts_one (pt_cmpR op_lt (pe_call G__law_sum_from hr (by rfl) g__law_sum_from k__law_sum_from b__law_sum_from .nil pass0 (pa_cons (pv 0) (pa_cons (pv 2) (pa_cons (pe_op op_sub (pv 1) pe_int) pa_nil)))) pe_int (nomark _)))) (fun _ _ _ _ _ => (pv 2))) (pe_lst pa_nil) (nomark _))))))), sx_def h ?_⟩
  rintro _ _ ⟨ns, h2, rfl, rfl⟩
  have hl : (ns.map PyData.int).length = ns.length := List.length_map _
  refine q_asg (ed_half ns.length (ed_len (ed_var rfl) hl) rfl) trivial ?_
  have k1 : (decide ((ns.length : Int) < 4)) = decide (ns.length < 4) := decide_eq_decide.mpr (by omega)
  refine q_ifRet (b := decide (ns.length < 4) || (!(ns.length == 2 * (ns.length / 2)) || !(lawF1 ns == []))) (et_or (et_is (et_test (ed_lt (ed_len (ed_var rfl) hl) (ed_int 4))) k1) fun _ =>
    et_or (et_is (et_test (ed_neI (ed_len (ed_var rfl) hl) (ed_mul (c := ((2 * (ns.length / 2) : Nat) : Int)) (ed_int 2) (ed_var rfl) (.inl ⟨by decide, by decide⟩) (by omega)))) (by rw [natBeq])) fun _ =>
      et_test (ed_neL (a := lawF1 ns) (b := []) (ed_lcRf (n := ns.length / 2) (fun a => (at_ ns a == 0) && (at_ ns (a + ns.length / 2) == 0)) (ea_cons (ed_var rfl) ea_nil) (by omega) (by decide) (fun i hi => ?_) (fun i hi => ed_var rfl)) (ed_lst ea_nil (by decide)))) (fun c => ?_) (fun c => ?_)
  · exact et_and (et_test (ed_eqI (ed_at i (ed_var rfl) (ed_var rfl) rfl (by omega)) (ed_int 0))) fun _ => et_test (ed_eqI (ed_at (i + ns.length / 2) (ed_var rfl) (ed_add (ed_var rfl) (ed_var rfl) rfl) (by omega) (by omega)) (ed_int 0))
  · refine sx_ret (ed_bl false) ?_
    show PyData.bool false = PyData.bool (lawIsRound ns)
    unfold lawIsRound
    rw [if_pos c]
  · have c' : ¬ (decide (ns.length < 4) || (!(ns.length == 2 * (ns.length / 2)) || !(lawF1 ns == []))) = true := by rw [c]; exact Bool.false_ne_true
    have h4 : 4 ≤ ns.length := by
      rw [Bool.or_eq_false_iff] at c
      have := of_decide_eq_false c.1
      omega
    refine q_ifRet (b := !(lawF2 ns == [])) (et_test (ed_neL (a := lawF2 ns) (b := []) (ed_lcRf (n := ns.length) (fun a => lawMerges ns a) (ea_cons (ed_len (ed_var rfl) hl) ea_nil) (by omega) (by decide) (fun i hi => ?_) (fun i hi => ed_var rfl)) (ed_lst ea_nil (by decide)))) (fun b => ?_) (fun b => ?_)
    · exact et_B (ed_call0 (ea_cons (ed_var rfl) (ea_cons (ed_var rfl) ea_nil)) ⟨ns, i, hi, h2, rfl, rfl⟩)
    · refine sx_ret (ed_bl false) ?_
      show PyData.bool false = PyData.bool (lawIsRound ns)
      unfold lawIsRound
      rw [if_neg c', if_pos b]
    · refine sx_ret (ed_eqL (a := lawF3 ns) (b := []) (ed_lcRf (n := ns.length) (fun a => decide (sumFrom ns a (ns.length / 2 - 1) < 2)) (ea_cons (ed_len (ed_var rfl) hl) ea_nil) (by omega) (by decide) (fun i hi => ?_) (fun i hi => ed_var rfl)) (ed_lst ea_nil (by decide))) ?_
      · exact et_test (ed_lt (ed_call0 (ea_cons (ed_var rfl) (ea_cons (ed_var rfl) (ea_cons (ed_sub (c := ((ns.length / 2 - 1 : Nat) : Int)) (ed_var rfl) (ed_int 1) (by omega)) ea_nil))) ⟨ns, i, ns.length / 2 - 1, by omega, h2, by omega, rfl, rfl⟩) (ed_int 2))
      · unfold lawIsRound
        rw [if_neg c', if_neg (by rw [b]; exact Bool.false_ne_true)]
def R_law_few_right (ds : List PyData) (d : PyData) : Prop := ∃ (m : Nat), 2 ≤ m ∧ m ≤ 9 ∧ ds = [.int m] ∧ d = .bool true
abbrev sp_law_few_right : Sp := spD R_law_few_right
theorem _law_few_right_len (ds d) (h : R_law_few_right ds d) : ds.length = 1 := by obtain ⟨t, _, _, rfl, _⟩ := h; rfl
abbrev s_law_few_right : Stmt := top 43
abbrev nm_law_few_right : List Str := ["_law_many", "_law_due", "_law_peaks", "_law_less", "_law_size"]
theorem sc_law_few_right : FnScope nm_law_few_right ["_law_many"] (defScope s_law_few_right) := ⟨rfl, rfl, rfl, by decide +kernel, rfl, by decide +kernel, by decide +kernel⟩
theorem ok_law_few_right {k : Nat} {f : Addr} {fd : FuncData} (F : Fun K "_law_few_right" "_law_few_right" s_law_few_right f fd) (c_word_count : Cal P w K mg base k "word_count" ["many", "excess"] spword_count) (c_word_count_kw : CalK P w K mg base k "word_count" ["many", "excess"] ["many", "excess"] gSame spword_count) (c_words_of : Cal P w K mg base k "words_of" ["many", "excess"] spwords_of) (c_words_of_kw : CalK P w K mg base k "words_of" ["many", "excess"] ["excess", "many"] gSwap spwords_of) (m_len : mg "len" = none) (m_sorted : mg "sorted" = none) (m_range : mg "range" = none) :
    FnOk P w K mg base CX0 (k + 1) f fd ["_law_many"] sp_law_few_right := by
  have nd := sc_law_few_right.nd
  obtain ⟨f_word_count, fd_word_count, G_word_count, g_word_count, k_word_count, b_word_count⟩ := c_word_count.ex
  obtain ⟨f_word_count_kw, fd_word_count_kw, gg_word_count_kw, G_word_count_kw, g_word_count_kw, k_word_count_kw, kb_word_count_kw⟩ := c_word_count_kw.ex
  obtain ⟨f_words_of, fd_words_of, G_words_of, g_words_of, k_words_of, b_words_of⟩ := c_words_of.ex
  obtain ⟨f_words_of_kw, fd_words_of_kw, gg_words_of_kw, G_words_of_kw, g_words_of_kw, k_words_of_kw, kb_words_of_kw⟩ := c_words_of_kw.ex
  refine F.ok sc_law_few_right (spD_len _law_few_right_len) (fun cdv A outer s H vs Q E hr h => ?_)
  refine ⟨_, (pss_cons (ps_set (i := 1) nd rfl (Or.inl rfl) (pe_lst pa_nil))
      (pss_cons (ps_for PassesOwn.never rfl (pi_range1 (by rfl) m_range (pa_cons (pv 0) pa_nil)) (pg_name (i := 2) nd rfl (Or.inl rfl)) (pss_one (ps_for PassesOwn.never rfl (pi_range2 (by rfl) m_range (pa_cons pe_int (pa_cons (pv 0) pa_nil))) (pg_name (i := 3) nd rfl (Or.inl rfl)) (pss_one (ps_if (pt_cmpR op_le (pe_op op_add (pv 2) (pe_op op_mul pe_int (pv 3))) (pv 0) (nomark _)) (pss_one (ps_expr (pe_bm PySem.F.plainAttrs_list PySem.F.slot_list_append PySem.F.type_list_append mt_append (pv 1) (pa_cons (pe_tup (pa_cons (pv 2) (pa_cons (pe_lst (pa_cons (pv 3) (pa_cons (pe_op op_sub (pe_op op_sub (pv 0) (pv 2)) (pv 3)) pa_nil))) pa_nil))) pa_nil)))) pss_nil)))))
      (pss_cons (ps_expr (pe_bm PySem.F.plainAttrs_list PySem.F.slot_list_append PySem.F.type_list_append mt_append (pe_call G_words_of hr (by rfl) g_words_of k_words_of b_words_of .nil pass0 (pa_cons (pv 0) (pa_cons pe_int pa_nil))) (pa_cons pe_non pa_nil)))
      (pss_cons (ps_if (PW.pt (pw_or (pt_cmpR (neK K hr.units) (pe_call G_words_of hr (by rfl) g_words_of k_words_of b_words_of .nil pass0 (pa_cons (pv 0) (pa_cons pe_int pa_nil))) (pe_lst (pa_cons (pe_tup (pa_cons (pv 0) (pa_cons (pe_lst pa_nil) pa_nil))) pa_nil)) (nomark _)) (pw_or (pt_cmpR (neK K hr.units) (pe_callK0 G_words_of_kw hr (by rfl) g_words_of_kw k_words_of_kw kb_words_of_kw pass0 (pk_cons pe_int (pk_cons (pv 0) pk_nil))) (pe_callB (sortedK K hr.units) (by rfl) m_sorted (by decide +kernel) (pa_cons (pv 1) pa_nil)) (nomark _)) (pw_or1 (pt_cmpR (neK K hr.units) (pe_call G_word_count hr (by rfl) g_word_count k_word_count b_word_count .nil pass0 (pa_cons (pv 0) (pa_cons pe_int pa_nil))) pe_int (nomark _)))))) (pss_one (ps_ret pe_bl)) pss_nil)
      (pss_cons (ps_set (i := 4) nd rfl (Or.inl rfl) (pe_op op_sub (pv 0) pe_int))
      (pss_one (ps_ret (pe_and (pe_cmpR (eqK K hr.units) (pe_callK0 G_word_count_kw hr (by rfl) g_word_count_kw k_word_count_kw kb_word_count_kw pass0 (pk_cons (pv 0) (pk_cons pe_int pk_nil))) (pe_callB (lenK K) (by rfl) m_len (by decide +kernel) (pa_cons (pv 1) pa_nil)) (nomark _)) (pe_one (pe_cmpR (eqK K hr.units) (pe_callB (lenK K) (by rfl) m_len (by decide +kernel) (pa_cons (pv 1) pa_nil)) (pe_op op_fdivN (pe_op op_mul (pv 4) (pv 4)) pe_int) (nomark _))))))))))), sx_def h ?_⟩
  rintro _ _ ⟨m, h2, h9, rfl, rfl⟩
  obtain ⟨f1, f2, f3, f4⟩ := few_ok m (by omega) h2
  refine q_new (by show 1 < 5; decide) ?_
  refine sx_seq (sx_forR (n := (m : Int)) (fun p ρ' o' => (∃ x y, ρ' = [some (.int m), none, x, y, none]) ∧ o' = some (1, ((List.range p).flatMap fun p => (List.range (m - 2)).flatMap (dueIn m p)).map Wd)) (ea_cons (ed_var rfl) ea_nil) (by omega) ⟨⟨none, none, rfl⟩, rfl⟩ (fun _ _ _ p => by rw [p.2]; show (1 : Nat) ≠ 2; decide) (fun p ρ' o' hp q => ?_) (fun ρ' o' p => p)) (fun ρ' o' q => ?_)
  · obtain ⟨⟨x, y, rfl⟩, rfl⟩ := q
    have hp : p < m := by omega
    have q1 := pre_le (fun p => (List.range (m - 2)).flatMap (dueIn m p)) _ p hp
    have f4 : ((List.range m).flatMap fun p => (List.range (m - 2)).flatMap (dueIn m p)).length ≤ 100 := f4
    refine SX.mono (sx_forR2 (lo := 2) (n := (m : Int)) (fun i ρ' o' => (∃ y, ρ' = [some (.int m), none, some (.int (p : Int)), y, none]) ∧ o' = some (1, (((List.range p).flatMap fun p => (List.range (m - 2)).flatMap (dueIn m p)) ++ (List.range i).flatMap (dueIn m p)).map Wd))
      (nx := fun ρ' o' => (∃ y, ρ' = [some (.int m), none, some (.int (p : Int)), y, none]) ∧ o' = some (1, (((List.range p).flatMap fun p => (List.range (m - 2)).flatMap (dueIn m p)) ++ (List.range (m - 2)).flatMap (dueIn m p)).map Wd))
      (ea_cons (ed_int 2) (ea_cons (ed_var rfl) ea_nil)) (by omega) ⟨⟨y, rfl⟩, ?_⟩ (fun _ _ _ p => by rw [p.2]; show (1 : Nat) ≠ 3; decide) (fun i ρ' o' hi q => ?_) (fun ρ' o' q => ?_)) (fun ρ' o' q => ?_) (fun _ z => z)
    · rw [List.range_zero, List.flatMap_nil, List.append_nil]
    · obtain ⟨⟨y, rfl⟩, rfl⟩ := q
      have hi : i < m - 2 := by omega
      have q2 := pre_le (dueIn m p) _ i hi
      refine sx_if (et_test (ed_le (ed_add (ed_var rfl) (ed_mul (ed_int 2) (ed_var rfl) (.inl ⟨by decide, by decide⟩) rfl) rfl) (ed_var rfl))) (fun c => ?_) (fun c => ?_)
      · have c : p + 2 * (i + 2) ≤ m := by have := of_decide_eq_true c; omega
        have e : dueIn m p i = [((p : Int), [((i + 2 : Nat) : Int), ((m - p - (i + 2) : Nat) : Int)])] := by unfold dueIn; rw [if_pos c]
        refine sx_append (d := Wd ((p : Int), [((i + 2 : Nat) : Int), ((m - p - (i + 2) : Nat) : Int)])) (ed_tup (ea_cons (ed_var rfl) (ea_cons (ed_lst (ea_cons (ed_is (ed_var rfl) (by rw [show (2 : Int) + (i : Int) = ((i + 2 : Nat) : Int) by omega])) (ea_cons (ed_sub (ed_sub (ed_var rfl) (ed_var rfl) rfl) (ed_var rfl) (by omega)) ea_nil)) (by show 2 ≤ 100000; decide)) ea_nil)) (by show 2 ≤ 100000; decide)) ?_ ⟨⟨_, rfl⟩, ?_⟩
        · rw [List.length_map, List.length_append]; omega
        · rw [fm_succ (dueIn m p) i, e]
          simp only [List.map_append, List.append_assoc, List.map_singleton]
      · have c : ¬ p + 2 * (i + 2) ≤ m := by have := of_decide_eq_false c; omega
        have e : dueIn m p i = [] := by unfold dueIn; rw [if_neg c]
        refine sx_next ⟨⟨_, rfl⟩, ?_⟩
        rw [fm_succ (dueIn m p) i, e, List.append_nil]
    · obtain ⟨a, rfl⟩ := q
      exact ⟨a, by rw [show ((m : Int) - 2).toNat = m - 2 by omega]⟩
    · obtain ⟨⟨y, rfl⟩, rfl⟩ := q
      exact ⟨⟨_, _, rfl⟩, by rw [fm_succ (fun p => (List.range (m - 2)).flatMap (dueIn m p)) p]⟩
  · obtain ⟨⟨x, y, rfl⟩, rfl⟩ := q
    refine sx_freeze ?_
    rw [show ((List.range (m : Int).toNat).flatMap fun p => (List.range (m - 2)).flatMap (dueIn m p)) = due m by rw [Int.toNat_natCast]; rfl]
    have w0 : ∀ (ρ : DE), EA (tCons (tVar 0) (tCons (tC (.int 0)) tNil)) (some (PyData.int (m : Int)) :: ρ) [.int (m : Int), .int 0] := fun ρ => ea_cons (ed_var rfl) (ea_cons (ed_int 0) ea_nil)
    refine q_popApp (ns := [(m : Int), 1]) (ds := (allWords m 1).map Wd) (ea_cons (ed_var rfl) (ea_cons (ed_int 1) ea_nil)) ⟨m, 1, h2, h9, by omega, rfl, rfl⟩ (by rw [List.length_map, words_eq, f2]; omega) ?_
    refine q_ifNo (et_or (a := false) (b := false) (et_is (et_test (ed_neLW (a := wordsC m 0) (b := [((m : Int), [])]) (ed_call0 (w0 _) ⟨m, 0, h2, h9, by omega, rfl, by rw [words_eq]⟩) (ed_lst (ea_cons (ed_tup (ea_cons (ed_var rfl) (ea_cons (ed_lst ea_nil (by show 0 ≤ 100000; decide)) ea_nil)) (by show 2 ≤ 100000; decide)) ea_nil) (by show 1 ≤ 100000; decide)))) ?_) fun _ =>
      et_or (a := false) (b := false) (et_is (et_test (ed_neLW (a := wordsC m 1) (b := (due m).mergeSort wLe) (ed_callK (fs := [.int (m : Int), .int 1]) ea_nil (ea_cons (ed_int 1) (ea_cons (ed_var rfl) ea_nil)) (fun G vs us hv hu => by cases hv; exact hu.rev) ⟨m, 1, h2, h9, by omega, rfl, by rw [words_eq]⟩) (ed_cb (ea_cons (ed_var rfl) ea_nil) (rc_sortW (due m) (by omega))))) ?_) fun _ =>
        et_is (et_test (ed_neI (ed_call0 (w0 _) ⟨m, 0, h2, h9, by omega, rfl, rfl⟩) (ed_int 1))) ?_) ?_
    · rw [show wordsC m 0 = [((m : Int), [])] from rfl, beq_self_eq_true]; rfl
    · rw [sort_eq, ← f1, beq_self_eq_true]; rfl
    · rfl
    · refine q_asg (ed_sub (c := ((m - 2 : Nat) : Int)) (ed_var rfl) (ed_int 2) (by omega)) trivial ?_
      refine sx_ret (ed_is (ed_andV (ed_eqI (ed_callK (fs := [.int (m : Int), .int 1]) ea_nil (ea_cons (ed_var rfl) (ea_cons (ed_int 1) ea_nil)) (fun G vs us hv hu => by cases hv; exact hu) ⟨m, 1, h2, h9, by omega, rfl, rfl⟩) (ed_len (ed_var rfl) (List.length_map _))) fun _ =>
        ed_eqI (ed_len (ed_var rfl) (List.length_map _)) (ed_op (ed_mul (c := (((m - 2) * (m - 2) : Nat) : Int)) (ed_var rfl) (ed_var rfl) (.inl ⟨by omega, by omega⟩) (by rw [Int.natCast_mul])) (ed_int 4) (rd_IC (C := CDivN) (g := fun i j => i.fdiv j) ⟨by decide, by decide⟩))) ?_) rfl
      rw [words_eq, f2, show ((((m - 2) * (m - 2) : Nat) : Int).fdiv 4) = (((m - 2) * (m - 2) / 4 : Nat) : Int) from fdiv_nat _ 4, f3, beq_self_eq_true]
      rfl
end
end DL

/-! W6: the pot: made, drawn from. -/
namespace DL
open PySem L2
open Evl (Ex)
/-- the pot at p -/
def Pot (H : Hp) (p : Addr) : Prop := ∃ a b : Int, H p = some (.lst [.int a, .int b]) ∧ 0 ≤ a ∧ 0 ≤ b ∧ b < 4294967296
/-- all but p is as it was -/
def Kept (p : Addr) (H H' : Hp) : Prop := ∀ a o, a ≠ p → H a = some o → H' a = some o
theorem Kept.ex {p : Addr} {G H H' : Hp} (k : Kept p H H') (e : Ex G H) (g : G p = none) : Ex G H' := fun a o q => k a o (ne_of_none q g) (e a o q)
theorem Kept.trans {p : Addr} {H H1 H2 : Hp} (a : Kept p H H1) (b : Kept p H1 H2) : Kept p H H2 := fun x o n h => b x o n (a x o n h)
theorem Kept.of_ex {p : Addr} {H H' : Hp} (e : Ex H H') : Kept p H H' := fun a o _ h => e a o h
theorem Kept.upd {p : Addr} {H : Hp} {o : HO} : Kept p H (upd H p o) := fun a u n h => by rw [upd_ne n]; exact h
theorem Pot.ex {H H' : Hp} {p : Addr} (h : Pot H p) (e : Ex H H') : Pot H' p := by
  obtain ⟨a, b, h1, h2⟩ := h
  exact ⟨a, b, e _ _ h1, h2⟩
def sp_law_draw : Sp := fun vs H Q _ => ∃ (p : Addr) (m : Int), vs = [.ref p, .int m] ∧ Pot H p ∧ 1 ≤ m ∧ m ≤ 1000 ∧ ∀ (r : Int) H', 0 ≤ r → r < m → Pot H' p → Kept p H H' → Q (.int r) H'
theorem _law_draw_lenR (vs : List V) (H : Hp) (Q : VK) (E : XK) (h : sp_law_draw vs H Q E) : vs.length = 2 := by obtain ⟨p, m, rfl, _⟩ := h; rfl
def sp_law_pick : Sp := fun vs H Q _ => ∃ (G : Hp) (p : Addr) (v : V) (ds : List PyData), vs = [.ref p, v] ∧ Ex G H ∧ Dr G v (.list ds) ∧ G p = none ∧ Pot H p ∧ 1 ≤ ds.length ∧ ds.length ≤ 100 ∧
  ∀ u d H', d ∈ ds → Dr G u d → Pot H' p → Kept p H H' → Q u H'
theorem _law_pick_lenR (vs : List V) (H : Hp) (Q : VK) (E : XK) (h : sp_law_pick vs H Q E) : vs.length = 2 := by obtain ⟨G, p, v, ds, rfl, _⟩ := h; rfl
def sp_law_pot (K : PySem.W.Frag) : Sp := fun vs H Q _ => ∃ (a : Addr) (ns : List Int), vs = [.ref a, .int 0] ∧ SqL K H a (ns.map V.int) ∧ ns.length ≤ 63 ∧ ∀ p H', Pot H' p → Q (.ref p) H'
theorem _law_pot_lenR {K : PySem.W.Frag} (vs : List V) (H : Hp) (Q : VK) (E : XK) (h : sp_law_pot K vs H Q E) : vs.length = 2 := by obtain ⟨G, p, rfl, _⟩ := h; rfl
theorem atL0 {x y : V} : L2.atI [x, y] (0 : Int) = some x := atI_nat (j := 0) rfl
theorem atL1 {x y : V} : L2.atI [x, y] (1 : Int) = some y := atI_nat (j := 1) rfl
theorem fmodP (a b : Int) (h : 0 < b) : a.fmod b = a % b := Int.fmod_eq_emod_of_nonneg a (by omega)
theorem fdivP (a b : Int) (h : 0 < b) : a.fdiv b = a / b := Int.fdiv_eq_ediv_of_nonneg a (by omega)
section
variable {P : Program} {w : World} {K : PySem.W.Frag} {mg : Str → Option Value} {base : Heap}
abbrev s_law_draw : Stmt := top 36
abbrev nm_law_draw : List Str := ["_law_pot_here", "_law_many", "_law_digit"]
theorem sc_law_draw : FnScope nm_law_draw ["_law_pot_here", "_law_many"] (defScope s_law_draw) := ⟨rfl, rfl, rfl, by decide +kernel, rfl, by decide +kernel, by decide +kernel⟩
theorem ok_law_draw {k : Nat} {f : Addr} {fd : FuncData} (F : Fun K "_law_draw" "_law_draw" s_law_draw f fd) (m_int : mg "int" = none) (m_divmod : mg "divmod" = none) :
    FnOk P w K mg base CX0 (k + 1) f fd ["_law_pot_here", "_law_many"] sp_law_draw := by
  have nd := sc_law_draw.nd
  refine F.ok sc_law_draw _law_draw_lenR (fun cdv A outer s H vs Q E hr h => ?_)
  refine ⟨_, (pss_cons (ps_if (pt_cmpR op_gt (pe_ix (ixLK K) (pv 0) pe_int (fun _ _ => rfl)) pe_int (nomark _)) (pss_cons (ps_asg (pe_callB call_divmod (by rfl) m_divmod (by decide +kernel) (pa_cons (pe_ix (ixLK K) (pv 0) pe_int (fun _ _ => rfl)) (pa_cons (pv 1) pa_nil))) (pgK (n := 2) K rfl (pgs_cons (pg_sub (pv 0) pe_int set_list) (pgs_cons (pg_name (i := 2) nd rfl (Or.inl rfl)) pgs_nil))))
      (pss_one (ps_ret (pv 2)))) pss_nil)
      (pss_cons (ps_asg (pe_op op_modN (pe_callTy call_int1 (by rfl) m_int (by decide +kernel) (pa_cons (pe_op op_add (pe_op op_mul (pe_ix (ixLK K) (pv 0) pe_int (fun _ _ => rfl)) pe_int) pe_int) pa_nil)) pe_int) (pg_sub (pv 0) pe_int set_list))
      (pss_one (ps_ret (pe_op op_modN (pe_callTy call_int1 (by rfl) m_int (by decide +kernel) (pa_cons (pe_op op_fdivN (pe_op op_modN (pe_callTy call_int1 (by rfl) m_int (by decide +kernel) (pa_cons (pe_op op_mul (pe_ix (ixLK K) (pv 0) pe_int (fun _ _ => rfl)) (pe_ix (ixLK K) (pv 0) pe_int (fun _ _ => rfl))) pa_nil)) pe_int) pe_int) pa_nil)) (pv 1)))))), ?_⟩
  obtain ⟨p, m, rfl, ⟨a, b, hp, ha, hb, hb2⟩, h1, h2, q⟩ := h
  refine ⟨.ref p, rfl, p, _, 0, .int a, rfl, rfl, Evl.sq_of hp, atL0, a, 0, rfl, rfl, _, rfl, ite2 (fun c => ?_) (fun c => ?_)⟩
  · refine ⟨.ref p, rfl, p, _, 0, .int a, rfl, rfl, Evl.sq_of hp, atL0, .int m, rfl, a, m, rfl, ⟨by omega, by omega⟩, fun t nt => ?_⟩
    have npt : p ≠ t := ne_of_none hp nt
    have hp2 : (upd H t (.tup [.int (a / m), .int (a % m)])) p = some (.lst [.int a, .int b]) := by rw [upd_ne npt]; exact hp
    refine ⟨t, _, rfl, Evl.st_of upd_same, rfl, .int (a / m), [.int (a % m)], rfl, .ref p, rfl, p, _, 0, 0, rfl, rfl, hp2, rfl, .int (a % m), [], rfl, rfl, .int (a % m), rfl, ?_⟩
    refine q (a % m) _ (Int.emod_nonneg _ (by omega)) (Int.emod_lt_of_pos _ (by omega)) ⟨a / m, b, upd_same, Int.ediv_nonneg ha (by omega), hb, hb2⟩ (Kept.trans (Kept.of_ex (Ex.new nt)) Kept.upd)
  · refine ⟨.ref p, rfl, p, _, 1, .int b, rfl, rfl, Evl.sq_of hp, atL1, b, 39373, rfl, rfl, .inl ⟨by omega, by omega⟩, _, 397, rfl, rfl, .inl ⟨_, rfl, _, _, rfl, rfl, (by show (2147483587 : Int) ≠ 0; decide), .ref p, rfl, p, _, 1, 1, rfl, rfl, hp, rfl, ?_⟩⟩
    obtain ⟨b2, eb⟩ : ∃ b2, b2 = (b * 39373 + 397).fmod 2147483587 := ⟨_, rfl⟩
    have hb3 : 0 ≤ b2 ∧ b2 < 2147483587 := by rw [eb, fmodP _ _ (by decide)]; omega
    have hp3 : (upd H p (.lst ([V.int a, V.int b].set 1 ((fun i j => V.int (i.fmod j)) (b * 39373 + 397) 2147483587)))) p = some (.lst [.int a, .int b2]) := by
      rw [upd_same]
      show some (HO.lst [V.int a, V.int ((b * 39373 + 397).fmod 2147483587)]) = _
      rw [eb]
    refine ⟨.ref p, rfl, p, _, 1, .int b2, rfl, rfl, Evl.sq_of hp3, atL1, .ref p, rfl, p, _, 1, .int b2, rfl, rfl, Evl.sq_of hp3, atL1, b2, b2, rfl, rfl, .inl ⟨by omega, by omega⟩, .inl ⟨_, rfl, _, _, rfl, rfl, (by show (2147483563 : Int) ≠ 0; decide), _, _, rfl, rfl, ⟨by decide, by decide⟩, .inl ⟨_, rfl, .int m, rfl, _, m, rfl, rfl, by omega, ?_⟩⟩⟩
    refine q ((((b2 * b2).fmod 2147483563).fdiv 17).fmod m) _ ?_ ?_ ⟨a, b2, hp3, ha, hb3.1, by omega⟩ Kept.upd
    · rw [fmodP _ m (by omega)]; exact Int.emod_nonneg _ (by omega)
    · rw [fmodP _ m (by omega)]; exact Int.emod_lt_of_pos _ (by omega)
abbrev s_law_pick : Stmt := top 37
abbrev nm_law_pick : List Str := ["_law_pot_here", "_law_some"]
theorem sc_law_pick : FnScope nm_law_pick ["_law_pot_here", "_law_some"] (defScope s_law_pick) := ⟨rfl, rfl, rfl, by decide +kernel, rfl, by decide +kernel, by decide +kernel⟩
theorem ok_law_pick {k : Nat} {f : Addr} {fd : FuncData} (F : Fun K "_law_pick" "_law_pick" s_law_pick f fd) (c__law_draw : Cal P w K mg base k "_law_draw" ["_law_pot_here", "_law_many"] sp_law_draw) (m_len : mg "len" = none) :
    FnOk P w K mg base CX0 (k + 1) f fd ["_law_pot_here", "_law_some"] sp_law_pick := by
  have nd := sc_law_pick.nd
  obtain ⟨f__law_draw, fd__law_draw, G__law_draw, g__law_draw, k__law_draw, b__law_draw⟩ := c__law_draw.ex
  refine F.ok sc_law_pick _law_pick_lenR (fun cdv A outer s H vs Q E hr h => ?_)
  refine ⟨_, (pss_one (ps_ret (pe_ix (ixLK K) (pv 1) (pe_call G__law_draw hr (by rfl) g__law_draw k__law_draw b__law_draw .nil pass0 (pa_cons (pv 0) (pa_cons (pe_callB (lenK K) (by rfl) m_len (by decide +kernel) (pa_cons (pv 1) pa_nil)) pa_nil))) (fun _ _ => rfl)))), ?_⟩
  obtain ⟨G, p, v, ds, rfl, e, hd, gp, hpot, h1, h2, q⟩ := h
  cases hd with
  | @lst l xs _ hl hx =>
    refine ⟨.ref l, rfl, .ref p, rfl, .ref l, rfl, l, xs, rfl, .inl (Evl.sq_of (e _ _ hl)), p, (xs.length : Int), rfl, hpot, by rw [hx.len]; omega, by rw [hx.len]; omega, fun r H' hr0 hr1 hpot' k => ?_⟩
    have hi : r.toNat < xs.length := by omega
    obtain ⟨d, hd1, hd2⟩ := hx.get (i := r.toNat) (v := xs[r.toNat]) (List.getElem?_eq_getElem hi)
    refine ⟨l, xs, r, xs[r.toNat], rfl, rfl, Evl.sq_of (k.ex e gp _ _ hl), ?_, ?_⟩
    · have er : r = ((r.toNat : Nat) : Int) := by omega
      have z : L2.atI xs ((r.toNat : Nat) : Int) = some xs[r.toNat] := atI_nat (List.getElem?_eq_getElem hi)
      rw [← er] at z
      exact z
    · exact q _ d H' (List.mem_of_getElem? hd1) hd2 hpot' k
abbrev s_law_pot : Stmt := top 35
abbrev nm_law_pot : List Str := ["_law_script", "_law_k", "_law_cell"]
theorem sc_law_pot : FnScope nm_law_pot ["_law_script", "_law_k"] (defScope s_law_pot) := ⟨rfl, rfl, rfl, by decide +kernel, rfl, by decide +kernel, by decide +kernel⟩
theorem ok_law_pot {k : Nat} {f : Addr} {fd : FuncData} (F : Fun K "_law_pot" "_law_pot" s_law_pot f fd) (m_int : mg "int" = none) (m_max : mg "max" = none) (m_len : mg "len" = none) (m_abs : mg "abs" = none) :
    FnOk P w K mg base CX0 (k + 1) f fd ["_law_script", "_law_k"] (sp_law_pot K) := by
  have nd := sc_law_pot.nd
  refine F.ok sc_law_pot _law_pot_lenR (fun cdv A outer s H vs Q E hr h => ?_)
  refine ⟨_, (pss_cons (ps_set (i := 2) nd rfl (Or.inl rfl) (pe_op op_add (pe_op op_mul pe_int (pv 1)) pe_int))
      (pss_cons (ps_if (pt_cmpR op_lt (pv 1) (pe_callB (lenK K) (by rfl) m_len (by decide +kernel) (pa_cons (pv 0) pa_nil)) (nomark _)) (pss_one (ps_set (i := 2) nd rfl (Or.inl rfl) (pe_callB call_abs (by rfl) m_abs (by decide +kernel) (pa_cons (pe_ix (ixLK K) (pv 0) (pv 1) (fun _ _ => rfl)) pa_nil)))) pss_nil)
      (pss_one (ps_ret (pe_lst (pa_cons (pe_callB (call_max2 rfl) (by rfl) m_max (by decide +kernel) (pa_cons pe_int (pa_cons (pe_op op_sub (pv 2) (pe_op op_pow pe_int pe_int)) pa_nil))) (pa_cons (pe_op op_add (pe_op op_modN (pe_callTy call_int1 (by rfl) m_int (by decide +kernel) (pa_cons (pe_op op_add (pe_op op_add (pe_op op_mul (pe_op op_modN (pe_callTy call_int1 (by rfl) m_int (by decide +kernel) (pa_cons (pv 2) pa_nil)) pe_int) pe_int) (pe_op op_mul pe_int (pv 1))) pe_int) pa_nil)) pe_int) pe_int) pa_nil))))))), ?_⟩
  obtain ⟨a, ns, rfl, hS, hlen, q⟩ := h
  have fin : ∀ (c : Int), 0 ≤ c → ∀ H', (tRet (tLst (tCons (tCB (fun xs H Q => ∃ i j, xs = [V.int i, V.int j] ∧ Q (V.int (if j > i then j else i)) H) (tCons (tC (.int 0)) (tCons (tOp (rI0 fun i j => .int (i - j)) (tVar 2) (tOp (rI CPow fun i j => .int (i ^ j.toNat)) (tC (.int 10)) (tC (.int 18)))) tNil)))
      (tCons (tOp (rI0 fun i j => .int (i + j)) (tOp (rI (fun _ j => j ≠ 0) fun i j => .int (i.fmod j)) (tCB (fun xs H Q => (∃ i, xs = [V.int i] ∧ Q (V.int i) H) ∨ ∃ k, xs = [V.bl k] ∧ Q (V.int (if k then 1 else 0)) H) (tCons (tOp (rI0 fun i j => .int (i + j)) (tOp (rI0 fun i j => .int (i + j)) (tOp (rI CMul fun i j => .int (i * j)) (tOp (rI (fun _ j => j ≠ 0) fun i j => .int (i.fmod j)) (tCB (fun xs H Q => (∃ i, xs = [V.int i] ∧ Q (V.int i) H) ∨ ∃ k, xs = [V.bl k] ∧ Q (V.int (if k then 1 else 0)) H) (tCons (tVar 2) tNil)) (tC (.int 2147483549))) (tC (.int 40692))) (tOp (rI CMul fun i j => .int (i * j)) (tC (.int 5437)) (tVar 1))) (tC (.int 397))) tNil)) (tC (.int 2147483563))) (tC (.int 1))) tNil))))
      { nx := fun _ H' => Q .non H', rt := Q } [some (.ref a), some (.int 0), some (.int c)] H' := fun c hc H' => by
    refine ⟨.int c, rfl, _, _, rfl, rfl, ⟨by decide, by decide, by decide⟩, _, _, rfl, rfl, _, _, rfl, ?_⟩
    have hm : 0 ≤ c.fmod 2147483549 ∧ c.fmod 2147483549 < 2147483549 := by rw [fmodP _ _ (by decide)]; omega
    refine ⟨.int c, rfl, .inl ⟨_, rfl, _, _, rfl, rfl, (by show (2147483549 : Int) ≠ 0; decide), _, _, rfl, rfl, .inl ⟨by omega, by omega⟩, .int 0, rfl, _, _, rfl, rfl, .inl ⟨by decide, by decide⟩, _, _, rfl, rfl, _, _, rfl, rfl, .inl ⟨_, rfl, _, _, rfl, rfl, (by show (2147483563 : Int) ≠ 0; decide), _, _, rfl, rfl, by show 2 ≤ sizeLine; decide, fun p hp => ?_⟩⟩⟩
    refine q p _ ⟨_, _, upd_same, ?_, ?_, ?_⟩
    · by_cases z : c - 10 ^ (18 : Int).toNat > 0
      · rw [if_pos z]; omega
      · rw [if_neg z]; exact Int.le_refl 0
    · rw [fmodP _ _ (by decide)]; omega
    · rw [fmodP (_ + _) _ (by decide)]; omega
  refine ⟨.int 0, rfl, _, _, rfl, rfl, .inl ⟨by decide, by decide⟩, _, _, rfl, rfl, ?_⟩
  refine ⟨.int 0, rfl, .ref a, rfl, a, _, rfl, .inl hS, _, _, rfl, rfl, _, rfl, ite2 (fun c => ?_) (fun c => ?_)⟩
  · have hl : 0 < ns.length := by
      have := of_decide_eq_true c
      rw [List.length_map] at this
      omega
    have z : L2.atI (ns.map V.int) ((0 : Nat) : Int) = some (.int ns[0]) := atI_nat (by rw [List.getElem?_map, List.getElem?_eq_getElem hl]; rfl)
    refine ⟨.ref a, rfl, .int 0, rfl, a, _, 0, .int ns[0], rfl, rfl, hS, z, ns[0], rfl, ?_⟩
    refine fin _ ?_ H
    by_cases q0 : ns[0] < 0
    · rw [if_pos q0]; omega
    · rw [if_neg q0]; omega
  · exact fin _ (by decide) H
end
end DL

/-! W7: the drawn word. -/
namespace DL
open PySem L2
open Evl (Ex)
theorem drawn_mem {m : Nat} (h5 : 5 ≤ m) (h7 : m ≤ 7) {b0 : List Int} (hb : b0 ∈ bases) {pk : Nat} {ns : List Int} (hp : (pk : Int) + (baseOf m b0).sum ≤ (m : Int)) (hn : ns ∈ adds ((m : Int) - pk - (baseOf m b0).sum).toNat (baseOf m b0)) (hs : 0 ≤ (baseOf m b0).sum) :
    ((pk : Int), lawLeast ns) ∈ wordsC m 2 := by
  have hd : drawnOk m = true := by
    have : m = 5 ∨ m = 6 ∨ m = 7 := by omega
    rcases this with rfl | rfl | rfl
    · exact drawn_ok5
    · exact drawn_ok6
    · exact drawn_ok7
  unfold drawnOk at hd
  have h1 := List.all_eq_true.mp hd b0 hb
  have h2 := List.all_eq_true.mp h1 pk (List.mem_range.mpr (by omega))
  have h3 : (!decide ((pk : Int) + (baseOf m b0).sum ≤ (m : Int)) || (adds ((m : Int) - pk - (baseOf m b0).sum).toNat (baseOf m b0)).all fun ns => (wordsC m 2).any fun x => (x.1 == (pk : Int)) && (x.2 == lawLeast ns)) = true := h2
  rw [decide_eq_true hp, Bool.not_true, Bool.false_or] at h3
  have h4 := List.all_eq_true.mp h3 ns hn
  obtain ⟨x, hx, e⟩ := List.any_eq_true.mp h4
  rw [Bool.and_eq_true, beq_iff_eq, beq_iff_eq] at e
  rw [show ((pk : Int), lawLeast ns) = x from Prod.ext e.1.symm e.2.symm]
  exact hx
theorem base_facts : ∀ b ∈ bases, ∀ m, m < 8 → 5 ≤ m → 0 ≤ (baseOf m b).sum ∧ (baseOf m b).sum ≤ (m : Int) ∧ 1 ≤ (baseOf m b).length ∧ (baseOf m b).length ≤ 10 := by decide +kernel
theorem rd_rep {as : List PyData} {k : Int} (h0 : 0 ≤ k) (h1 : k ≤ 1000) (h2 : as.length * k.toNat ≤ 1000) : RD rRep (.list as) (.int k) (.list (List.replicate k.toNat as).flatten) := fun G H v u e a b Q q => by
  cases b
  cases a with
  | @lst pa xa _ ha hd =>
    refine ⟨_, k, xa, rfl, rfl, e _ _ ha, by omega, by omega, sz (by rw [hd.len]; omega), fun p hp => ?_⟩
    have g := Gw.new (o := .lst (List.replicate k.toNat xa).flatten) e hp
    exact q _ _ _ g (.lst upd_same ((hd.rep k.toNat).mono g.gg))
section
variable {ρ : DE}
theorem ed_01 : ED (tOp rRep (tLst (tCons (tC (.int 0)) (tCons (tC (.int 1)) tNil))) (tC (.int 5))) ρ (L base5) :=
  ed_is (ed_op (ed_lst (ea_cons (ed_int 0) (ea_cons (ed_int 1) ea_nil)) (by decide)) (ed_int 5) (rd_rep (by decide) (by decide) (by decide))) rfl
theorem cps_asg {te : TE} {g : TG} {u : TS} {D : Ends} {σ : St} {H : Hp} (h : te σ H (fun x H1 => g x σ H1 (u D))) : tSeq (tAsg te g) u D σ H := h
theorem cps_forE {ta : TA} {ρ : DE} {n : Int} {g : TG} {tb u : TS} {D : Ends} {σ : St} {G H : Hp} (h : EA ta ρ [.int n]) (e : Ex G H) (R : EnvR G σ ρ) (h1 : -1000 ≤ n) (h2 : n ≤ 1000)
    (k : ∀ G2 H2, Gw G H G2 H2 → tFor (fun _ H' R' => R' (Itr 0 n.toNat) H') g tb { D with nx := u D } σ H2) : tSeq (tFor (iRng1 ta) g tb) u D σ H := h G H σ e R _ fun vs G2 H2 gw d => ⟨n, d.ints (ns := [n]), by omega, by omega, k G2 H2 gw⟩
theorem cps_ret {te : TE} {D : Ends} {σ : St} {H : Hp} (h : te σ H D.rt) : tRet te D σ H := h
theorem ed_bases : ED (tLst (tCons (tOp rRep (tLst (tCons (tC (.int 0)) (tCons (tC (.int 1)) tNil))) (tC (.int 5)))
    (tCons (tOp rRep (tLst (tCons (tC (.int 0)) (tCons (tC (.int 2)) tNil))) (tC (.int 3)))
    (tCons (tOp rRep (tLst (tCons (tC (.int 1)) tNil)) (tC (.int 6)))
    (tCons (tLst (tCons (tC (.int 0)) (tCons (tC (.int 1)) (tCons (tC (.int 1)) (tCons (tC (.int 0)) (tCons (tC (.int 1)) (tCons (tC (.int 1)) (tCons (tC (.int 0)) (tCons (tC (.int 2)) tNil)))))))))
    (tCons (tLst (tCons (tC (.int 0)) (tCons (tC (.int 1)) (tCons (tC (.int 1)) (tCons (tC (.int 0)) (tCons (tC (.int 1)) (tCons (tC (.int 1)) (tCons (tC (.int 1)) (tCons (tC (.int 1)) tNil)))))))))
    (tCons (tLst (tCons (tC (.int 0)) (tCons (tC (.int 2)) (tCons (tC (.int 1)) (tCons (tC (.int 1)) (tCons (tC (.int 1)) (tCons (tC (.int 2)) tNil)))))))
    (tCons (tOp rRep (tLst (tCons (tC (.int 2)) tNil)) (tC (.int 4))) tNil)))))))) ρ (LL bases) :=
  ed_is (ed_lst (ea_cons ed_01 (ea_cons (ed_op (ed_lst (ea_cons (ed_int 0) (ea_cons (ed_int 2) ea_nil)) (by decide)) (ed_int 3) (rd_rep (by decide) (by decide) (by decide)))
    (ea_cons (ed_op (ed_lst (ea_cons (ed_int 1) ea_nil) (by decide)) (ed_int 6) (rd_rep (by decide) (by decide) (by decide)))
    (ea_cons (ed_lst (ea_cons (ed_int 0) (ea_cons (ed_int 1) (ea_cons (ed_int 1) (ea_cons (ed_int 0) (ea_cons (ed_int 1) (ea_cons (ed_int 1) (ea_cons (ed_int 0) (ea_cons (ed_int 2) ea_nil)))))))) (by decide))
    (ea_cons (ed_lst (ea_cons (ed_int 0) (ea_cons (ed_int 1) (ea_cons (ed_int 1) (ea_cons (ed_int 0) (ea_cons (ed_int 1) (ea_cons (ed_int 1) (ea_cons (ed_int 1) (ea_cons (ed_int 1) ea_nil)))))))) (by decide))
    (ea_cons (ed_lst (ea_cons (ed_int 0) (ea_cons (ed_int 2) (ea_cons (ed_int 1) (ea_cons (ed_int 1) (ea_cons (ed_int 1) (ea_cons (ed_int 2) ea_nil)))))) (by decide))
    (ea_cons (ed_op (ed_lst (ea_cons (ed_int 2) ea_nil) (by decide)) (ed_int 4) (rd_rep (by decide) (by decide) (by decide))) ea_nil))))))) (by decide)) rfl
end
def sp_law_drawn : Sp := fun vs H Q _ => ∃ (G : Hp) (p : Addr) (m : Nat), vs = [.ref p, .int m] ∧ Ex G H ∧ G p = none ∧ Pot H p ∧ 5 ≤ m ∧ m ≤ 7 ∧
  ∀ v x G' H', x ∈ wordsC m 2 → Ex G G' → Ex G' H' → Dr G' v (Wd x) → Pot H' p → Kept p H H' → Q v H'
theorem _law_drawn_lenR (vs : List V) (H : Hp) (Q : VK) (E : XK) (h : sp_law_drawn vs H Q E) : vs.length = 2 := by obtain ⟨G, p, m, rfl, _⟩ := h; rfl
theorem kept_new {p q : Addr} {H0 H : Hp} {o : HO} (k : Kept p H0 H) (hq : H q = none) (hp : H p ≠ none) : H0 q = none := by
  cases z : H0 q with
  | none => rfl
  | some u =>
    have n : q ≠ p := fun e => hp (by rw [← e]; exact hq)
    have := k q u n z
    rw [this] at hq
    cases hq
theorem pot_some {H : Hp} {p : Addr} (h : Pot H p) : H p ≠ none := by
  obtain ⟨a, b, h1, _⟩ := h
  rw [h1]
  intro z
  cases z
section
variable {P : Program} {w : World} {K : PySem.W.Frag} {mg : Str → Option Value} {base : Heap}
abbrev s_law_drawn : Stmt := top 42
abbrev nm_law_drawn : List Str := ["_law_pot_here", "_law_many", "_law_some", "_law_base", "_law_peaks", "_law_numbers", "_law_turn", "_law_at"]
theorem sc_law_drawn : FnScope nm_law_drawn ["_law_pot_here", "_law_many"] (defScope s_law_drawn) := ⟨rfl, rfl, rfl, by decide +kernel, rfl, by decide +kernel, by decide +kernel⟩
theorem ok_law_drawn {k : Nat} {f : Addr} {fd : FuncData} (F : Fun K "_law_drawn" "_law_drawn" s_law_drawn f fd) (c__law_least : Cal P w K mg base k "_law_least" ["_law_numbers"] sp_law_least) (c__law_draw : Cal P w K mg base k "_law_draw" ["_law_pot_here", "_law_many"] sp_law_draw) (c__law_pick : Cal P w K mg base k "_law_pick" ["_law_pot_here", "_law_some"] sp_law_pick) (m_range : mg "range" = none) (m_sum : mg "sum" = none) (m_len : mg "len" = none) (m_list : mg "list" = none) :
    FnOk P w K mg base CX0 (k + 1) f fd ["_law_pot_here", "_law_many"] sp_law_drawn := by
  have nd := sc_law_drawn.nd
  obtain ⟨f__law_least, fd__law_least, G__law_least, g__law_least, k__law_least, b__law_least⟩ := c__law_least.ex
  obtain ⟨f__law_draw, fd__law_draw, G__law_draw, g__law_draw, k__law_draw, b__law_draw⟩ := c__law_draw.ex
  obtain ⟨f__law_pick, fd__law_pick, G__law_pick, g__law_pick, k__law_pick, b__law_pick⟩ := c__law_pick.ex
  refine F.ok sc_law_drawn _law_drawn_lenR (fun cdv A outer s H vs Q E hr h => ?_)
  refine ⟨_, (pss_cons (ps_set (i := 2) nd rfl (Or.inl rfl) (pe_lst (pa_cons (pe_op op_rep (pe_lst (pa_cons pe_int (pa_cons pe_int pa_nil))) pe_int) (pa_cons (pe_op op_rep (pe_lst (pa_cons pe_int (pa_cons pe_int pa_nil))) pe_int) (pa_cons (pe_op op_rep (pe_lst (pa_cons pe_int pa_nil)) pe_int) (pa_cons (pe_lst (pa_cons pe_int (pa_cons pe_int (pa_cons pe_int (pa_cons pe_int (pa_cons pe_int (pa_cons pe_int (pa_cons pe_int (pa_cons pe_int pa_nil))))))))) (pa_cons (pe_lst (pa_cons pe_int (pa_cons pe_int (pa_cons pe_int (pa_cons pe_int (pa_cons pe_int (pa_cons pe_int (pa_cons pe_int (pa_cons pe_int pa_nil))))))))) (pa_cons (pe_lst (pa_cons pe_int (pa_cons pe_int (pa_cons pe_int (pa_cons pe_int (pa_cons pe_int (pa_cons pe_int pa_nil))))))) (pa_cons (pe_op op_rep (pe_lst (pa_cons pe_int pa_nil)) pe_int) pa_nil)))))))))
      (pss_cons (ps_set (i := 3) nd rfl (Or.inl rfl) (pe_call G__law_pick hr (by rfl) g__law_pick k__law_pick b__law_pick .nil pass0 (pa_cons (pv 0) (pa_cons (pv 2) pa_nil))))
      (pss_cons (ps_set (i := 3) nd rfl (Or.inl rfl) (pe_ifExp (pt_cmpR op_le (pe_callB (sumK K rfl) (by rfl) m_sum (by decide +kernel) (pa_cons (pv 3) pa_nil)) (pv 1) (nomark _)) (pv 3) (pe_op op_rep (pe_lst (pa_cons pe_int (pa_cons pe_int pa_nil))) pe_int)))
      (pss_cons (ps_set (i := 4) nd rfl (Or.inl rfl) (pe_op op_mul (pe_call G__law_draw hr (by rfl) g__law_draw k__law_draw b__law_draw .nil pass0 (pa_cons (pv 0) (pa_cons pe_int pa_nil))) (pe_call G__law_draw hr (by rfl) g__law_draw k__law_draw b__law_draw .nil pass0 (pa_cons (pv 0) (pa_cons (pe_op op_add (pe_op op_sub (pv 1) (pe_callB (sumK K rfl) (by rfl) m_sum (by decide +kernel) (pa_cons (pv 3) pa_nil))) pe_int) pa_nil)))))
      (pss_cons (ps_set (i := 5) nd rfl (Or.inl rfl) (pe_callTy (listK K) (by rfl) m_list (by decide +kernel) (pa_cons (pv 3) pa_nil)))
      (pss_cons (ps_for PassesOwn.never rfl (pi_range1 (by rfl) m_range (pa_cons (pe_op op_sub (pe_op op_sub (pv 1) (pv 4)) (pe_callB (sumK K rfl) (by rfl) m_sum (by decide +kernel) (pa_cons (pv 3) pa_nil))) pa_nil)) (pg_name (i := 6) nd rfl (Or.inl rfl)) (pss_cons (ps_set (i := 7) nd rfl (Or.inl rfl) (pe_call G__law_draw hr (by rfl) g__law_draw k__law_draw b__law_draw .nil pass0 (pa_cons (pv 0) (pa_cons (pe_callB (lenK K) (by rfl) m_len (by decide +kernel) (pa_cons (pv 5) pa_nil)) pa_nil))))
      (pss_one (ps_asg (pe_op op_add (pe_ix (ixLK K) (pv 5) (pv 7) (fun _ _ => rfl)) pe_int) (pg_sub (pv 5) (pv 7) set_list)))))
      (pss_one (ps_ret (pe_tup (pa_cons (pv 4) (pa_cons (pe_call G__law_least hr (by rfl) g__law_least k__law_least b__law_least .nil pass0 (pa_cons (pv 5) pa_nil)) pa_nil))))))))))), ?_⟩
  obtain ⟨G, p, m, rfl, e, gp, hpot, h5, h7, q⟩ := h
  have R0 : EnvR G [some (V.ref p), some (V.int m), none, none, none, none, none, none] [none, some (.int m), none, none, none, none, none, none] := ⟨rfl, fun i d h => by
    match i with
    | 0 => cases h
    | 1 => cases h; exact ⟨_, rfl, .int _⟩
    | 2 => cases h
    | 3 => cases h
    | 4 => cases h
    | 5 => cases h
    | 6 => cases h
    | 7 => cases h
    | n + 8 => cases h⟩
  -- some = ..
  refine cps_asg (ed_bases G H _ e R0 _ fun v1 G1 H1 g1 d1 => ?_)
  have gp1 : G1 p = none := g1.fz p (pot_some hpot) gp
  -- base = pick(..)
  refine ⟨.ref p, rfl, v1, rfl, G1, p, v1, bases.map L, rfl, g1.gh, d1, gp1, hpot.ex g1.hh, by decide, by decide, fun u d H2 hd du pot2 k2 => ?_⟩
  obtain ⟨b0, hb0, rfl⟩ := List.mem_map.mp hd
  obtain ⟨s0, s1, l0, l1⟩ := base_facts b0 hb0 m (by omega) h5
  have e2 : Ex G1 H2 := k2.ex g1.gh gp1
  have R2 : EnvR G1 [some (V.ref p), some (V.int m), some v1, some u, none, none, none, none] [none, some (.int m), some (LL bases), some (L b0), none, none, none, none] := ((R0.mono g1.gg).set 2 d1).set 3 du
  -- base = base if .. else ..
  have e3 : ED (tIf (tTest (tOp (rI0 fun i j => .bl (decide (i ≤ j))) (tCB (rSum K) (tCons (tVar 3) tNil)) (tVar 1))) (tVar 3) (tOp rRep (tLst (tCons (tC (.int 0)) (tCons (tC (.int 1)) tNil))) (tC (.int 5)))) [none, some (.int m), some (LL bases), some (L b0), none, none, none, none] (L (baseOf m b0)) :=
    ed_if (et_test (ed_le (ed_cb (ea_cons (ed_var rfl) ea_nil) rc_sum) (ed_var rfl))) (fun c => by unfold baseOf; rw [if_pos (of_decide_eq_true c)]; exact ed_var rfl) (fun c => by unfold baseOf; rw [if_neg (of_decide_eq_false c)]; exact ed_01)
  refine cps_asg (e3 G1 H2 _ e2 R2 _ fun v3 G3 H3 g3 d3 => ?_)
  generalize hbo : baseOf m b0 = b at *
  have gp3 : G3 p = none := g3.fz p (pot_some pot2) gp1
  have pot3 : Pot H3 p := pot2.ex g3.hh
  have R3 : EnvR G3 [some (V.ref p), some (V.int m), some v1, some v3, none, none, none, none] [none, some (.int m), some (LL bases), some (L b), none, none, none, none] := (R2.mono g3.gg).set 3 d3
  have k3 : Kept p H H3 := ((Kept.of_ex g1.hh).trans k2).trans (Kept.of_ex g3.hh)
  -- peaks
  refine ⟨.ref p, rfl, p, 2, rfl, pot3, by decide, by decide, fun r1 H4 hr0 hr1 pot4 k4 => ?_⟩
  have e4 : ED (tOp (rI0 fun i j => .int (i + j)) (tOp (rI0 fun i j => .int (i - j)) (tVar 1) (tCB (rSum K) (tCons (tVar 3) tNil))) (tC (.int 1))) [none, some (.int m), some (LL bases), some (L b), none, none, none, none] (.int ((m : Int) - b.sum + 1)) :=
    ed_add (ed_sub (ed_var rfl) (ed_cb (ea_cons (ed_var rfl) ea_nil) rc_sum) rfl) (ed_int 1) rfl
  refine ⟨.ref p, rfl, e4 G3 H4 _ (k4.ex g3.gh gp3) R3 _ fun w5 G5 H5 g5 d5 => ?_⟩
  cases d5
  have gp5 : G5 p = none := g5.fz p (pot_some pot4) gp3
  refine ⟨p, _, rfl, pot4.ex g5.hh, by omega, by omega, fun r2 H6 hs0 hs1 pot6 k6 => ?_⟩
  refine ⟨r1, r2, rfl, rfl, .inl ⟨by omega, by omega⟩, ?_⟩
  have hpk : 0 ≤ r1 * r2 ∧ r1 * r2 ≤ (m : Int) - b.sum := by
    have : r1 = 0 ∨ r1 = 1 := by omega
    rcases this with rfl | rfl
    · rw [Int.zero_mul]; omega
    · rw [Int.one_mul]; omega
  obtain ⟨pk, epk⟩ : ∃ pk : Nat, r1 * r2 = (pk : Int) := ⟨(r1 * r2).toNat, by omega⟩
  have e6 : Ex G5 H6 := k6.ex g5.gh gp5
  have k06 : Kept p H H6 := ((k3.trans k4).trans (Kept.of_ex g5.hh)).trans k6
  have R6 : EnvR G5 [some (V.ref p), some (V.int m), some v1, some v3, some (V.int (r1 * r2)), none, none, none] [none, some (.int m), some (LL bases), some (L b), some (.int pk), none, none, none] := by
    rw [epk]
    exact (R3.mono g5.gg).set 4 (.int _)
  -- numbers = list(base)
  have d3' := d3.mono g5.gg
  cases d3' with
  | @lst l xs _ hl hx =>
    rw [hx.ints] at hl
    refine ⟨.ref l, rfl, l, _, rfl, .inl (Evl.sq_of (e6 _ _ hl)), fun n nn => ?_⟩
    have npn : p ≠ n := fun z => pot_some pot6 (by rw [z]; exact nn)
    have gn5 : G5 n = none := Evl.fresh_back e6 nn
    have hn0 : H n = none := kept_new (o := .lst []) k06 nn (pot_some pot6)
    have e7 : Ex G5 (upd H6 n (.lst (b.map V.int))) := e6.trans (Ex.new nn)
    have R7 : EnvR G5 [some (V.ref p), some (V.int m), some v1, some (V.ref l), some (V.int (r1 * r2)), some (V.ref n), none, none] [none, some (.int m), some (LL bases), some (L b), some (.int pk), none, none, none] := R6.setN 5 _
    -- the loop
    have e8 : EA (tCons (tOp (rI0 fun i j => .int (i - j)) (tOp (rI0 fun i j => .int (i - j)) (tVar 1) (tVar 4)) (tCB (rSum K) (tCons (tVar 3) tNil))) tNil) [none, some (.int m), some (LL bases), some (L b), some (.int pk), none, none, none] [.int ((m : Int) - pk - b.sum)] :=
      ea_cons (ed_sub (ed_sub (ed_var rfl) (ed_var rfl) rfl) (ed_cb (ea_cons (ed_var rfl) ea_nil) rc_sum) rfl) ea_nil
    refine cps_forE e8 e7 R7 (by omega) (by omega) fun G8 H8 g8 => ?_
    have gp8 : G8 p = none := g8.fz p (by rw [upd_ne npn]; exact pot_some pot6) gp5
    have gn8 : G8 n = none := g8.fz n (by rw [upd_same]; intro z; cases z) gn5
    obtain ⟨N, eN⟩ : ∃ N : Nat, N = ((m : Int) - pk - b.sum).toNat := ⟨_, rfl⟩
    refine for_range (lo := 0) (n := ((m : Int) - pk - b.sum).toNat)
      (fun i σ H' => ∃ (ns : List Int) (x6 x7 : Option V), σ = [some (V.ref p), some (V.int m), some v1, some (V.ref l), some (V.int (r1 * r2)), some (V.ref n), x6, x7] ∧ H' n = some (.lst (ns.map V.int)) ∧ ns.length = b.length ∧ (∀ z ∈ adds (((m : Int) - pk - b.sum).toNat - i) ns, z ∈ adds ((m : Int) - pk - b.sum).toNat b) ∧ Pot H' p ∧ Kept p H H' ∧ Ex G8 H')
      ⟨b, none, none, rfl, g8.hh _ _ upd_same, rfl, fun z hz => hz, (pot6.ex (Ex.new nn)).ex g8.hh, (k06.trans (Kept.of_ex (Ex.new nn))).trans (Kept.of_ex g8.hh), g8.gh⟩ (fun i σ H' hi hW => ?_) (fun σ H' hW => ?_)
    · obtain ⟨ns, x6, x7, rfl, hn, hnl, ha, hpot', hk', hG'⟩ := hW
      have hnl2 : (ns.map V.int).length = ns.length := List.length_map _
      -- at = draw(..)
      refine ⟨.ref p, rfl, .ref n, rfl, n, _, rfl, .inl (Evl.sq_of hn), p, _, rfl, hpot', by rw [hnl2]; omega, by rw [hnl2]; omega, fun r H9 hr0' hr1' pot9 k9 => ?_⟩
      rw [hnl2] at hr1'
      obtain ⟨j, rfl⟩ : ∃ j : Nat, r = (j : Int) := ⟨r.toNat, by omega⟩
      have hj : j < ns.length := by omega
      have hn9 : H9 n = some (.lst (ns.map V.int)) := k9 n _ (Ne.symm npn) hn
      have hat : L2.atI (ns.map V.int) (j : Int) = some (.int ns[j]) := atI_nat (by rw [List.getElem?_map, List.getElem?_eq_getElem hj]; rfl)
      -- numbers[at] = numbers[at] + 1
      refine ⟨.ref n, rfl, .int (j : Int), rfl, n, _, _, _, rfl, rfl, Evl.sq_of hn9, hat, _, _, rfl, rfl, .ref n, rfl, .int (j : Int), rfl, n, _, _, j, rfl, rfl, hn9, Evl.ixN_nat (by rw [hnl2]; exact hj), ?_⟩
      refine ⟨ns.set j (at_ ns j + 1), _, _, rfl, ?_, by rw [List.length_set]; exact hnl, fun z hz => ?_, ?_, ?_, ?_⟩
      · rw [upd_same, List.map_set]
        unfold at_
        rw [List.getD_eq_getElem?_getD, List.getElem?_eq_getElem hj]
        rfl
      · refine ha z ?_
        rw [show ((m : Int) - pk - b.sum).toNat - i = (((m : Int) - pk - b.sum).toNat - (i + 1)) + 1 by omega]
        exact List.mem_flatMap.mpr ⟨j, List.mem_range.mpr hj, hz⟩
      · obtain ⟨a, c, q1, q2⟩ := pot9
        exact ⟨a, c, by rw [upd_ne npn]; exact q1, q2⟩
      · intro a o na ho
        have nan : a ≠ n := ne_of_none ho hn0
        rw [upd_ne nan]
        exact k9 a o na (hk' a o na ho)
      · intro a o ho
        rw [upd_ne (ne_of_none ho gn8)]
        exact k9.ex hG' gp8 a o ho
    · obtain ⟨ns, x6, x7, rfl, hn, hnl, ha, hpot', hk', hG'⟩ := hW
      rw [Nat.sub_self] at ha
      have hmem : ns ∈ adds ((m : Int) - pk - b.sum).toNat b := ha ns (List.mem_singleton.mpr rfl)
      have eG9 : Ex G8 (upd G8 n (.lst (ns.map V.int))) := Ex.new gn8
      have e9 : Ex (upd G8 n (.lst (ns.map V.int))) H' := fun a o ho => by
        by_cases z : a = n
        · subst z; rw [upd_same] at ho; cases ho; exact hn
        · rw [upd_ne z] at ho; exact hG' a o ho
      have R9 : EnvR (upd G8 n (.lst (ns.map V.int))) [some (V.ref p), some (V.int m), some v1, some (V.ref l), some (V.int (r1 * r2)), some (V.ref n), x6, x7] [none, some (.int m), some (LL bases), some (L b), some (.int pk), some (L ns), none, none] :=
        (((((R7.mono g8.gg).mono eG9).setN 6 x6).setN 7 x7).set 5 (.lst upd_same (DrA.of_ints ns)))
      have e10 : ED (tTup (tCons (tVar 4) (tCons (tCall sp_law_least [] E0 (tCons (tVar 5) tNil)) tNil))) [none, some (.int m), some (LL bases), some (L b), some (.int pk), some (L ns), none, none] (Wd ((pk : Int), lawLeast ns)) :=
        ed_tup (ea_cons (ed_var rfl) (ea_cons (ed_call0 (ea_cons (ed_var rfl) ea_nil) ⟨ns, by omega, rfl, rfl⟩) ea_nil)) (by show 2 ≤ 100000; decide)
      refine cps_ret (e10 _ H' _ e9 R9 _ fun v G' H'' g' d' => ?_)
      refine q v ((pk : Int), lawLeast ns) G' H'' ?_ ((((g1.gg.trans g3.gg).trans g5.gg).trans g8.gg).trans (eG9.trans g'.gg)) g'.gh d' (hpot'.ex g'.hh) (hk'.trans (Kept.of_ex g'.hh))
      refine drawn_mem h5 h7 hb0 ?_ ?_ ?_
      · rw [hbo]; omega
      · rw [hbo]; exact hmem
      · rw [hbo]; exact s0
end
end DL

/-! W8: the law over the words with an excess of 2. -/
namespace DL
open PySem L2
open Evl (Ex)
section
variable {K : PySem.W.Frag} {ρ : DE} {o : Own} {nx : DE → Own → Prop} {rt : PyData → Prop} {te ta tl : TE} {t u : TS} {tr : TA}
/-- for i, x in enumerate(a list) -/
theorem sx_forE {i0 j0 : Nat} {ds : List PyData} (P : Nat → DE → Own → Prop) (h : EA tr ρ [.list ds]) (h0 : P 0 ρ o) (hf : ∀ i ρ' o', P i ρ' o' → Off i0 o' ∧ Off j0 o')
    (hs : ∀ (i : Nat) x ρ' o', ds[i]? = some x → P i ρ' o' → SX t ((ρ'.set i0 (some (.int (i : Nat)))).set j0 (some x)) o' (P (i + 1)) rt) (hd : ∀ ρ' o', P ds.length ρ' o' → nx ρ' o') :
    SX (tFor (iEnum K tr) (gTup K 2 (gCons (gName i0) (gCons (gName j0) gNil))) t) ρ o nx rt := fun G0 H0 B D hn hr σ H s => by
  obtain ⟨G, g, b, R, w⟩ := s.ex
  refine h G H σ g.gh R _ fun us G1 H1 g1 d1 => ?_
  cases d1 with
  | cons r d2 =>
    cases d2
    cases r with
    | @lst a xs _ ha hds =>
      refine ⟨a, xs, rfl, Evl.sq_of (g1.gh _ _ ha), ?_⟩
      refine ⟨fun i m σ' H' => m = xs.length - i ∧ i ≤ xs.length ∧ ∃ ρ' o', P i ρ' o' ∧ SR G0 H0 G1 ρ' o' σ' H', ⟨xs.length, by simp, Nat.zero_le _, ρ, o, h0, G1, g.trans g1, Ex.refl G1, R.mono g1.gg, w.grow g1⟩, ?_⟩
      rintro i m σ' H' ⟨rfl, hi, ρ', o', p, G3, g3, b3, R3, w3⟩
      have hq : SqL K H' a xs := Evl.sq_of (g3.gh _ _ (b3 _ _ ha))
      by_cases hlt : i < xs.length
      · refine .inr ⟨⟨xs, xs[i], hq, by simp [hlt]⟩, fun σ5 H5 => ∃ ρ' o', P (i + 1) ρ' o' ∧ SR G0 H0 G1 ρ' o' σ5 H5, fun σ5 H5 hx => ⟨xs.length - (i + 1), by omega, rfl, hlt, hx⟩, fun v H5 hy => ?_⟩
        obtain ⟨T, x, rfl, hT, rfl, hx⟩ := hy
        obtain ⟨dx, hdx, rx⟩ := hds.get (hx xs hq)
        have eT : Ex H' (upd H' T (.tup [.int (i : Nat), x])) := Ex.new hT
        refine ⟨T, _, rfl, Evl.st_of upd_same, rfl, .int (i : Nat), [x], rfl, x, [], rfl, rfl, ?_⟩
        refine hs i dx ρ' o' hdx p G0 H0 G1 { D with nx := fun σ5 H5 => ∃ ρ' o', P (i + 1) ρ' o' ∧ SR G0 H0 G1 ρ' o' σ5 H5, ct := fun σ5 H5 => ∃ ρ' o', P (i + 1) ρ' o' ∧ SR G0 H0 G1 ρ' o' σ5 H5, bk := D.nx } (fun ρ5 o5 σ5 H5 p5 s5 => ⟨ρ5, o5, p5, s5⟩) hr _ _ ?_
        refine ⟨G3, ⟨g3.gg, g3.gh.trans eT, g3.hh.trans eT, g3.fz⟩, b3, (R3.set i0 (.int _)).set j0 (rx.mono b3), ?_⟩
        have w4 : OwnR G3 H0 (upd H' T (.tup [.int (i : Nat), x])) σ' o' := by
          cases o' with
          | none => exact trivial
          | some y =>
            obtain ⟨k, es⟩ := y
            obtain ⟨q, ys, a1, a2, a3, a4, a5⟩ := w3
            exact ⟨q, ys, a1, eT _ _ a2, a3, a4, a5⟩
        exact (w4.set (hf i ρ' o' p).1).set (hf i ρ' o' p).2
      · have e : i = xs.length := by omega
        subst e
        refine .inl ⟨⟨xs, hq, Nat.le_refl _⟩, ?_⟩
        rw [hds.len] at p
        exact hn _ _ _ _ (hd ρ' o' p) ⟨G3, g3, b.trans (g1.gg.trans b3), R3, w3⟩
def pick0 : PyData → Bool
  | .tuple (.int n :: _) => n == 0
  | _ => false
/-- [1 for p, ns in words if p == 0] -/
theorem ed_cnt {tt : TT} {i j : Nat} {vs : List Nat} {ws : List (Int × List Int)} (h : ED tl ρ (LW ws)) (hi : i ∈ vs) (hj : j ∈ vs) (hl : ws.length < 50000)
    (ht : ∀ x : Int × List Int, ET tt (((wipeD ρ vs).set i (some (.int x.1))).set j (some (L x.2))) (x.1 == 0)) (he : ∀ x : Int × List Int, ED te (((wipeD ρ vs).set i (some (.int x.1))).set j (some (L x.2))) (.int 1)) :
    ED (tLc (iList K tl) (gTup K 2 (gCons (gName i) (gCons (gName j) gNil))) tt te vs) ρ (.list ((ws.filter fun x => x.1 == 0).map fun _ => .int 1)) := by
  have q := ed_lcP (te := te) (tt := tt) (K := K) pick0 (fun _ => .int 1) fstD sndD h hi hj (by rw [List.length_map]; exact hl) (fun x hx => by
    obtain ⟨p, _, rfl⟩ := List.mem_map.mp hx
    rfl) (fun x hx => by
    obtain ⟨p, _, rfl⟩ := List.mem_map.mp hx
    exact ht p) (fun x hx _ => by
    obtain ⟨p, _, rfl⟩ := List.mem_map.mp hx
    exact he p)
  rw [List.filter_map, List.map_map] at q
  exact q
theorem rd_isnotB {a b : Bool} : RD (fun x y H Q => ∃ a b, x = V.bl a ∧ y = V.bl b ∧ Q (V.bl (!decide (a = b))) H) (.bool a) (.bool b) (.bool (!decide (a = b))) := fun G H v u e x y Q q => by
  cases x
  cases y
  exact ⟨a, b, rfl, rfl, q _ G H (Gw.refl e) (.bl _)⟩
end
theorem cnt_at : ∀ m, m < 8 → 2 ≤ m → at_ [0, 0, 0, 1, 7, 31] (m - 2) = (cnt m : Int) ∧ at_ [0, 0, 0, 1, 6, 24] (m - 2) = (cntP m : Int) := by decide
theorem twin_at : ∀ (ws : List (Int × List Int)) (i : Nat) (a b : Int × List Int), noTwin ws = true → ws[i]? = some a → ws[i + 1]? = some b → (a == b) = false
  | [], i, a, b, _, h, _ => by simp at h
  | [x], i, a, b, _, h, h2 => by simp at h2
  | x :: y :: r, 0, a, b, h, h1, h2 => by
    simp at h1 h2
    subst h1 h2
    unfold noTwin at h
    rw [Bool.and_eq_true] at h
    simpa using h.1
  | x :: y :: r, i + 1, a, b, h, h1, h2 => by
    unfold noTwin at h
    rw [Bool.and_eq_true] at h
    exact twin_at (y :: r) i a b h.2 (by simpa using h1) (by simpa using h2)
def PotO (o : Own) : Prop := ∃ a b : Int, o = some (0, [.int a, .int b]) ∧ 0 ≤ a ∧ 0 ≤ b ∧ b < 4294967296
def sp_law_two_right : Sp := fun vs H Q _ => ∃ (p : Addr) (m : Nat), vs = [.ref p, .int m] ∧ Pot H p ∧ 2 ≤ m ∧ m ≤ 7 ∧ ∀ H', Q (.bl true) H'
theorem _law_two_right_lenR (vs : List V) (H : Hp) (Q : VK) (E : XK) (h : sp_law_two_right vs H Q E) : vs.length = 2 := by obtain ⟨p, m, rfl, _⟩ := h; rfl
/-- a body whose first parameter is the pot, by data -/
theorem sx_pot {t : TS} {N : List Str} {p : Addr} {m : Nat} {H : Hp} {Q : VK} (hp : Pot H p) (hN : 2 ≤ N.length) (q : ∀ H', Q (.bl true) H')
    (k : ∀ o, PotO o → SX t (none :: some (.int (m : Int)) :: List.replicate (N.length - 2) none) o (fun _ _ => False) (fun d => d = .bool true)) : t { nx := fun _ H' => Q .non H', rt := Q } (L2.start N [.ref p, .int m]) H := by
  obtain ⟨a, b, h1, h2⟩ := hp
  refine k (some (0, [.int a, .int b])) ⟨a, b, rfl, h2⟩ (fun _ => none) (fun x => if x = p then none else H x) (fun _ => none) _ (fun _ _ _ _ z => z.elim) (fun d v G' H' e g r => ?_) _ _ ⟨fun _ => none, ⟨Ex.refl _, fun x o z => (by cases z), fun x o z => ?_, fun _ _ z => z⟩, Ex.refl _, ⟨?_, fun i d z => ?_⟩, p, [.int a, .int b], ?_, h1, rfl, if_pos rfl, DrA.of_ints [a, b]⟩
  · subst e
    cases r
    exact q H'
  · by_cases zx : x = p
    · have z' : (if x = p then none else H x) = some o := z
      rw [if_pos zx] at z'
      cases z'
    · have z' : (if x = p then none else H x) = some o := z
      rw [if_neg zx] at z'
      exact z'
  · show (L2.start N [.ref p, .int m]).length = _
    unfold L2.start
    simp
  · match i with
    | 0 => cases z
    | 1 => cases z; exact ⟨_, rfl, .int _⟩
    | n + 2 =>
      have z2 : (List.replicate (N.length - 2) (none : Option PyData))[n]? = some (some d) := z
      have := List.mem_of_getElem? z2
      rw [List.mem_replicate] at this
      exact absurd this.2 (by simp)
  · rfl
section
variable {P : Program} {w : World} {K : PySem.W.Frag} {mg : Str → Option Value} {base : Heap}
abbrev s_law_two_right : Stmt := top 44
abbrev nm_law_two_right : List Str := ["_law_pot_here", "_law_many", "_law_found", "_law_at", "_law_one", "_law_peaks", "_law_numbers", "_law_turn"]
theorem sc_law_two_right : FnScope nm_law_two_right ["_law_pot_here", "_law_many"] (defScope s_law_two_right) := ⟨rfl, rfl, rfl, by decide +kernel, rfl, by decide +kernel, by decide +kernel⟩
theorem ok_law_two_right {k : Nat} {f : Addr} {fd : FuncData} (F : Fun K "_law_two_right" "_law_two_right" s_law_two_right f fd) (c__law_drawn : Cal P w K mg base k "_law_drawn" ["_law_pot_here", "_law_many"] sp_law_drawn) (c_is_word : Cal P w K mg base k "is_word" ["value"] spis_word) (c__law_least : Cal P w K mg base k "_law_least" ["_law_numbers"] sp_law_least) (c__law_is_round : Cal P w K mg base k "_law_is_round" ["_law_numbers"] sp_law_is_round) (c_word_count : Cal P w K mg base k "word_count" ["many", "excess"] spword_count) (c_words_of : Cal P w K mg base k "words_of" ["many", "excess"] spwords_of) (m_range : mg "range" = none) (m_enumerate : mg "enumerate" = none) (m_sum : mg "sum" = none) (m_isinstance : mg "isinstance" = none) (m_list : mg "list" = none) (m_tuple : mg "tuple" = none) (m_len : mg "len" = none) (m_sorted : mg "sorted" = none) :
    FnOk P w K mg base CX0 (k + 1) f fd ["_law_pot_here", "_law_many"] sp_law_two_right := by
  have nd := sc_law_two_right.nd
  obtain ⟨f__law_drawn, fd__law_drawn, G__law_drawn, g__law_drawn, k__law_drawn, b__law_drawn⟩ := c__law_drawn.ex
  obtain ⟨f_is_word, fd_is_word, G_is_word, g_is_word, k_is_word, b_is_word⟩ := c_is_word.ex
  obtain ⟨f__law_least, fd__law_least, G__law_least, g__law_least, k__law_least, b__law_least⟩ := c__law_least.ex
  obtain ⟨f__law_is_round, fd__law_is_round, G__law_is_round, g__law_is_round, k__law_is_round, b__law_is_round⟩ := c__law_is_round.ex
  obtain ⟨f_word_count, fd_word_count, G_word_count, g_word_count, k_word_count, b_word_count⟩ := c_word_count.ex
  obtain ⟨f_words_of, fd_words_of, G_words_of, g_words_of, k_words_of, b_words_of⟩ := c_words_of.ex
  refine F.ok sc_law_two_right _law_two_right_lenR (fun cdv A outer s H vs Q E hr h => ?_)
  refine ⟨_, (pss_cons (ps_set (i := 2) nd rfl (Or.inl rfl) (pe_call G_words_of hr (by rfl) g_words_of k_words_of b_words_of .nil pass0 (pa_cons (pv 1) (pa_cons pe_int pa_nil))))
      (pss_cons (ps_if (PW.pt (pw_or (pt_cmpR (neK K hr.units) (pe_callB (lenK K) (by rfl) m_len (by decide +kernel) (pa_cons (pv 2) pa_nil)) (pe_ix (ixLK K) (pe_lst (pa_cons pe_int (pa_cons pe_int (pa_cons pe_int (pa_cons pe_int (pa_cons pe_int (pa_cons pe_int pa_nil))))))) (pe_op op_sub (pv 1) pe_int) (fun _ _ => rfl)) (nomark _)) (pw_or (pt_cmpR (neK K hr.units) (pe_call G_word_count hr (by rfl) g_word_count k_word_count b_word_count .nil pass0 (pa_cons (pv 1) (pa_cons pe_int pa_nil))) (pe_callB (lenK K) (by rfl) m_len (by decide +kernel) (pa_cons (pv 2) pa_nil)) (nomark _)) (pw_or1 (pt_cmpR (neK K hr.units) (pv 2) (pe_callB (sortedK K hr.units) (by rfl) m_sorted (by decide +kernel) (pa_cons (pv 2) pa_nil)) (nomark _)))))) (pss_one (ps_ret pe_bl)) pss_nil)
      (pss_cons (ps_if (pt_cmpR (neK K hr.units) (pe_callB (lenK K) (by rfl) m_len (by decide +kernel) (pa_cons (pe_lc (own := [("_law_peaks", 5), ("_law_numbers", 6)]) rfl nd (piK K (pv 2)) (blkOk_by (own := [("_law_peaks", 5), ("_law_numbers", 6)]) (N := nm_law_two_right) (sc := defScope s_law_two_right) (by decide +kernel)) (fun _ _ _ _ _ => (pgK (n := 2) K rfl (pgs_cons (pg_name (i := 5) nd rfl (Or.inl rfl)) (pgs_cons (pg_name (i := 6) nd rfl (Or.inl rfl)) pgs_nil)))) (fun _ _ _ _ _ => (pts_one (pt_cmpR (eqK K hr.units) (pv 5) pe_int (nomark _)))) (fun _ _ _ _ _ => pe_int)) pa_nil)) (pe_ix (ixLK K) (pe_lst (pa_cons pe_int (pa_cons pe_int (pa_cons pe_int (pa_cons pe_int (pa_cons pe_int (pa_cons pe_int pa_nil))))))) (pe_op op_sub (pv 1) pe_int) (fun _ _ => rfl)) (nomark _)) (pss_one (ps_ret pe_bl)) pss_nil)
      (pss_cons (ps_for PassesOwn.never rfl (pi_enum (by rfl) m_enumerate (pa_cons (pv 2) pa_nil)) (pgK (n := 2) K rfl (pgs_cons (pg_name (i := 3) nd rfl (Or.inl rfl)) (pgs_cons (pg_name (i := 4) nd rfl (Or.inl rfl)) pgs_nil))) (pss_cons (ps_asg (pv 4) (pgK (n := 2) K rfl (pgs_cons (pg_name (i := 5) nd rfl (Or.inl rfl)) (pgs_cons (pg_name (i := 6) nd rfl (Or.inl rfl)) pgs_nil))))
      (pss_cons (ps_if (PW.pt (pw_or (pt_not (pt_val (pe_callB (isiK K) (by rfl) m_isinstance (by decide +kernel) (pa_cons (pv 4) (pa_cons (pe_bltn (v := .ty "tuple") (by rfl) m_tuple (by decide +kernel) rfl) pa_nil))))) (pw_or (pt_not (pt_val (pe_callB (isiK K) (by rfl) m_isinstance (by decide +kernel) (pa_cons (pv 6) (pa_cons (pe_bltn (v := .ty "list") (by rfl) m_list (by decide +kernel) rfl) pa_nil))))) (pw_or (pt_cmpR (neK K hr.units) (pe_op op_add (pv 5) (pe_callB (sumK K rfl) (by rfl) m_sum (by decide +kernel) (pa_cons (pv 6) pa_nil))) (pv 1) (nomark _)) (pw_or1 (PW.pt (pw_and (pt_cmpR op_gt (pv 3) pe_int (nomark _)) (pw_and1 (pt_cmpR (eqK K hr.units) (pe_ix (ixLK K) (pv 2) (pe_op op_sub (pv 3) pe_int) (fun _ _ => rfl)) (pv 4) (nomark _)))))))))) (pss_one (ps_ret pe_bl)) pss_nil)
      (pss_one (ps_if (PW.pt (pw_or (pt_not (pt_val (pe_call G__law_is_round hr (by rfl) g__law_is_round k__law_is_round b__law_is_round .nil pass0 (pa_cons (pv 6) pa_nil)))) (pw_or (pt_cmpR (neK K hr.units) (pe_call G__law_least hr (by rfl) g__law_least k__law_least b__law_least .nil pass0 (pa_cons (pv 6) pa_nil)) (pv 6) (nomark _)) (pw_or1 (pt_cmpR op_isnot_bl (pe_call G_is_word hr (by rfl) g_is_word k_is_word b_is_word .nil pass0 (pa_cons (pv 4) pa_nil)) pe_bl (nomark _)))))) (pss_one (ps_ret pe_bl)) pss_nil)))))
      (pss_cons (ps_for PassesOwn.never rfl (pi_range1 (by rfl) m_range (pa_cons (pe_ifExp (pt_cmpR op_gt (pv 1) pe_int (nomark _)) pe_int pe_int) pa_nil)) (pg_name (i := 7) nd rfl (Or.inl rfl)) (pss_one (ps_if (pt_cmpR (notInK K (DL.u65 hr)) (pe_call G__law_drawn hr (by rfl) g__law_drawn k__law_drawn b__law_drawn .nil pass0 (pa_cons (pv 0) (pa_cons (pv 1) pa_nil))) (pv 2) rfl) (pss_one (ps_ret pe_bl)) pss_nil)))
      (pss_one (ps_ret pe_bl))))))), ?_⟩
  obtain ⟨p, m, rfl, hpot, h2, h7, q⟩ := h
  refine sx_pot hpot (by decide) q fun o hO => ?_
  obtain ⟨f1, f2, f3, f4⟩ := two_ok m (by omega) h2
  obtain ⟨c1, c2⟩ := cnt_at m (by omega) h2
  have f0 : (wordsC m 2).length ≤ 31 := by
    rw [f3]
    unfold cnt
    have : m - 2 = 0 ∨ m - 2 = 1 ∨ m - 2 = 2 ∨ m - 2 = 3 ∨ m - 2 = 4 ∨ m - 2 = 5 := by omega
    rcases this with e | e | e | e | e | e <;> rw [e] <;> decide
  have hO2 : ∀ j o, 0 < j → PotO o → Off j o := fun j o hj ⟨a, b, e, _⟩ => by rw [e]; show (0 : Nat) ≠ j; omega
  show SX _ [none, some (.int (m : Int)), none, none, none, none, none, none] o _ _
  refine q_asg (d := LW (wordsC m 2)) (ed_call0 (ea_cons (ed_var rfl) (ea_cons (ed_int 2) ea_nil)) ⟨m, 2, h2, by omega, by omega, rfl, by rw [words_eq]⟩) (hO2 _ _ (by decide) hO) ?_
  have hlw : ((wordsC m 2).map Wd).length = (wordsC m 2).length := List.length_map _
  refine q_ifNo (et_or (a := false) (b := false) (et_is (et_test (ed_neI (ed_len (ed_var rfl) hlw) (ed_at (ns := [0, 0, 0, 1, 7, 31]) (m - 2) (ed_lst (ea_cons (ed_int 0) (ea_cons (ed_int 0) (ea_cons (ed_int 0) (ea_cons (ed_int 1) (ea_cons (ed_int 7) (ea_cons (ed_int 31) ea_nil)))))) (by decide)) (ed_sub (ed_var rfl) (ed_int 2) rfl) (by omega) (by show m - 2 < 6; omega)))) ?_) fun _ =>
    et_or (a := false) (b := false) (et_is (et_test (ed_neI (ed_call0 (ea_cons (ed_var rfl) (ea_cons (ed_int 2) ea_nil)) ⟨m, 2, h2, by omega, by omega, rfl, rfl⟩) (ed_len (ed_var rfl) hlw))) ?_) fun _ =>
      et_is (et_test (ed_neLW (ed_var rfl) (ed_cb (ea_cons (ed_var rfl) ea_nil) (rc_sortW (wordsC m 2) (by omega))))) ?_) ?_
  · rw [c1, f3, beq_self_eq_true]; rfl
  · rw [words_eq, beq_self_eq_true]; rfl
  · rw [words_sorted, beq_self_eq_true]; rfl
  refine q_ifNo (et_is (et_test (ed_neI (ed_len (n := cntP m) (ed_cnt (ws := wordsC m 2) (ed_var rfl) (by decide) (by decide) (by omega) (fun x => et_test (ed_eqI (ed_var rfl) (ed_int 0))) (fun x => ed_int 1)) (by rw [List.length_map]; exact f4)) (ed_at (ns := [0, 0, 0, 1, 6, 24]) (m - 2) (ed_lst (ea_cons (ed_int 0) (ea_cons (ed_int 0) (ea_cons (ed_int 0) (ea_cons (ed_int 1) (ea_cons (ed_int 6) (ea_cons (ed_int 24) ea_nil)))))) (by decide)) (ed_sub (ed_var rfl) (ed_int 2) rfl) (by omega) (by show m - 2 < 6; omega)))) (by rw [c2, beq_self_eq_true]; rfl)) ?_
  refine sx_seq (sx_forE (ds := (wordsC m 2).map Wd) (fun i ρ' o' => (∃ x3 x4 x5 x6, ρ' = [none, some (.int (m : Int)), some (LW (wordsC m 2)), x3, x4, x5, x6, none]) ∧ o' = o) (ea_cons (ed_var rfl) ea_nil) ⟨⟨none, none, none, none, rfl⟩, rfl⟩ (fun i ρ' o' pp => by rw [pp.2]; exact ⟨hO2 _ _ (by decide) hO, hO2 _ _ (by decide) hO⟩) (fun i xd ρ' o' hi pp => ?_) (fun ρ' o' pp => pp)) (fun ρ' o' pp => ?_)
  · obtain ⟨⟨x3, x4, x5, x6, rfl⟩, rfl⟩ := pp
    rw [List.getElem?_map] at hi
    cases hx : (wordsC m 2)[i]? with
    | none => rw [hx] at hi; cases hi
    | some x =>
      rw [hx] at hi
      cases hi
      have ok := List.all_eq_true.mp f1 x (List.mem_of_getElem? hx)
      unfold okW at ok
      simp only [Bool.and_eq_true, decide_eq_true_eq, beq_iff_eq] at ok
      obtain ⟨⟨⟨⟨⟨⟨⟨k1, k2⟩, k3⟩, k4⟩, k5⟩, k6⟩, k7⟩, k8⟩ := ok
      have k2 : ∀ n ∈ x.2, (0 : Int) ≤ n := fun n hn => of_decide_eq_true (List.all_eq_true.mp k2 n hn)
      have k8 : fitsW x.1 x.2 = true := k8
      have hil : i < (wordsC m 2).length := (List.getElem?_eq_some_iff.mp hx).1
      refine q_unpack (x := .int x.1) (y := L x.2) (ed_var rfl) (hO2 _ _ (by decide) hO) (hO2 _ _ (by decide) hO) ?_
      have kt : kitB (tyD (Wd x)) "tuple" = some true := kit_tt
      have kl : kitB (tyD (L x.2)) "list" = some true := kit_ll
      have tw : ∀ j, i = j + 1 → ∃ y, (wordsC m 2)[j]? = some y ∧ (y == x) = false := fun j hj => by
        have hjl : j < (wordsC m 2).length := by omega
        refine ⟨_, List.getElem?_eq_getElem hjl, ?_⟩
        exact twin_at (wordsC m 2) j _ x f2 (List.getElem?_eq_getElem hjl) (by rw [← hj]; exact hx)
      refine q_ifNo (et_or (a := false) (b := false) (et_not (a := true) (et_B (ed_isi (ed_var rfl) kt))) fun _ => et_or (a := false) (b := false) (et_not (a := true) (et_B (ed_isi (ed_var rfl) kl))) fun _ =>
        et_or (a := false) (b := false) (et_is (et_test (ed_neI (ed_add (ed_var rfl) (ed_cb (ea_cons (ed_var rfl) ea_nil) rc_sum) k5) (ed_var rfl))) (by rw [beq_self_eq_true]; rfl)) fun _ => ?_) ?_
      · cases i with
        | zero => exact et_and (a := false) (b := false) (et_is (et_test (ed_gt (ed_var rfl) (ed_int 0))) rfl) (fun z => by cases z)
        | succ j =>
          obtain ⟨y, hy, ny⟩ := tw j rfl
          refine et_and (a := true) (b := false) (et_is (et_test (ed_gt (ed_var rfl) (ed_int 0))) (decide_eq_true (by omega))) fun _ => ?_
          have e1 : L2.atI ((wordsC m 2).map Wd) (j : Int) = some (Wd y) := atI_nat (by rw [List.getElem?_map, hy]; rfl)
          refine et_is (et_test (ed_op (ed_op (ed_var rfl) (ed_sub (c := (j : Int)) (ed_var rfl) (ed_int 1) (by omega)) (rd_ixL e1)) (ed_var rfl) (rd_eqD (sh_W y) (sh_W x)))) ?_
          rw [eqv_W, ny]
      · refine sx_ifNo (et_or (a := false) (b := false) (et_is (et_not (et_B (ed_call0 (ea_cons (ed_var rfl) ea_nil) ⟨x.2, k4, rfl, rfl⟩))) (by rw [k6]; rfl)) fun _ => et_or (a := false) (b := false) (et_is (et_test (ed_neL (ed_call0 (ea_cons (ed_var rfl) ea_nil) ⟨x.2, k4, rfl, rfl⟩) (ed_var rfl))) (by rw [k7, beq_self_eq_true]; rfl)) fun _ =>
          et_is (et_test (ed_op (ed_call0 (ea_cons (ed_var rfl) ea_nil) ⟨x, k1, k2, k3, k4, rfl, rfl⟩) (ed_bl true) rd_isnotB)) (by rw [k8]; rfl)) ⟨⟨_, _, _, _, rfl⟩, rfl⟩
  · obtain ⟨⟨x3, x4, x5, x6, rfl⟩, rfl⟩ := pp
    obtain ⟨nn, hnn⟩ : ∃ nn : Nat, nn = if 4 < m then 3 else 0 := ⟨_, rfl⟩
    refine sx_seq (sx_forR (n := (nn : Int)) (fun i ρ' o' => (∃ x7, ρ' = [none, some (.int (m : Int)), some (LW (wordsC m 2)), x3, x4, x5, x6, x7]) ∧ PotO o')
      (ea_cons (ed_if (et_test (ed_gt (ed_var rfl) (ed_int 4))) (fun c => ?_) (fun c => ?_)) ea_nil) (by rw [hnn]; split <;> omega) ⟨⟨none, rfl⟩, hO⟩ (fun _ _ _ pp => hO2 _ _ (by decide) pp.2) (fun i ρ' o' hi pp => ?_) (fun ρ' o' pp => pp)) (fun ρ' o' pp => ?_)
    · have c : 4 < m := by have := of_decide_eq_true c; omega
      rw [hnn, if_pos c]
      exact ed_int 3
    · have c : ¬ 4 < m := by have := of_decide_eq_false c; omega
      rw [hnn, if_neg c]
      exact ed_int 0
    · have h5 : 5 ≤ m := by
        by_cases c : 4 < m
        · omega
        · rw [hnn, if_neg c] at hi
          exact absurd hi (by simp)
      obtain ⟨⟨x7, rfl⟩, a, b, rfl, hab⟩ := pp
      intro G0 H0 B D hn hr' σ H' s'
      obtain ⟨G, g, bb, R, p', xs, a1, a2, a3, a4, a5⟩ := s'.ex
      rw [a5.ints (ns := [a, b])] at a2
      obtain ⟨v1, s1, r1⟩ := R.get 1 _ rfl
      obtain ⟨v2, s2, r2⟩ := R.get 2 _ rfl
      cases r1
      refine ⟨.ref p', a1, .int (m : Int), s1, G, p', m, rfl, g.gh, a3, ⟨a, b, a2, hab⟩, h5, h7, fun v y G' H'' hy e1 e2 dy hpot' k' => ?_⟩
      refine ⟨v2, s2, Wd y, (wordsC m 2).map Wd, dy.dp e2, r2.dp (e1.trans e2), sh_W y, sh_LW _, ?_⟩
      have ea : ((wordsC m 2).map Wd).any (fun z => PyData.eqv z (Wd y)) = true := by
        rw [List.any_eq_true]
        exact ⟨Wd y, List.mem_map.mpr ⟨y, hy, rfl⟩, by rw [eqv_W, beq_self_eq_true]⟩
      rw [ea]
      refine ⟨false, rfl, iteF ?_⟩
      obtain ⟨a', b', hp1, hp2⟩ := hpot'
      refine hn _ (some (0, [.int a', .int b'])) _ _ ⟨⟨_, rfl⟩, a', b', rfl, hp2⟩ ⟨G, ⟨g.gg, e1.trans e2, fun x u hx => ?_, g.fz⟩, bb, R, p', [.int a', .int b'], a1, hp1, a3, a4, DrA.of_ints [a', b']⟩
      exact k' x u (ne_of_none hx a4) (g.hh x u hx)
    · obtain ⟨⟨x7, rfl⟩, _⟩ := pp
      exact sx_ret (ed_bl true) rfl
def sp_law_right : Sp := fun vs H Q _ => ∃ (p : Addr), vs = [.ref p] ∧ Pot H p ∧ ∀ H', Q (.bl true) H'
theorem _law_right_lenR (vs : List V) (H : Hp) (Q : VK) (E : XK) (h : sp_law_right vs H Q E) : vs.length = 1 := by obtain ⟨p, rfl, _⟩ := h; rfl
def splaw (K : PySem.W.Frag) : Sp := fun vs H Q _ => ∃ (a : Addr) (ns : List Int), vs = [.ref a] ∧ SqL K H a (ns.map V.int) ∧ ns.length ≤ 63 ∧ ∀ H', Q (.bl true) H'
theorem law_lenR {K : PySem.W.Frag} (vs : List V) (H : Hp) (Q : VK) (E : XK) (h : splaw K vs H Q E) : vs.length = 1 := by obtain ⟨p, ns, rfl, _⟩ := h; rfl
abbrev slaw : Stmt := top 46
abbrev nmlaw : List Str := ["_law_script"]
theorem sclaw : FnScope nmlaw ["_law_script"] (defScope slaw) := ⟨rfl, rfl, rfl, by decide +kernel, rfl, by decide +kernel, by decide +kernel⟩
theorem oklaw {k : Nat} {f : Addr} {fd : FuncData} (F : Fun K "law" "law" slaw f fd) (c__law_right : Cal P w K mg base k "_law_right" ["_law_pot_here"] sp_law_right) (c__law_pot : Cal P w K mg base k "_law_pot" ["_law_script", "_law_k"] (sp_law_pot K)) :
    FnOk P w K mg base CX0 (k + 1) f fd ["_law_script"] (splaw K) := by
  have nd := sclaw.nd
  obtain ⟨f__law_right, fd__law_right, G__law_right, g__law_right, k__law_right, b__law_right⟩ := c__law_right.ex
  obtain ⟨f__law_pot, fd__law_pot, G__law_pot, g__law_pot, k__law_pot, b__law_pot⟩ := c__law_pot.ex
  refine F.ok sclaw law_lenR (fun cdv A outer s H vs Q E hr h => ?_)
  refine ⟨_, (pss_one (ps_ret (pe_call G__law_right hr (by rfl) g__law_right k__law_right b__law_right .nil pass0 (pa_cons (pe_call G__law_pot hr (by rfl) g__law_pot k__law_pot b__law_pot .nil pass0 (pa_cons (pv 0) (pa_cons pe_int pa_nil))) pa_nil)))), ?_⟩
  obtain ⟨a, ns, rfl, hS, hl, q⟩ := h
  exact ⟨.ref a, rfl, a, ns, rfl, hS, hl, fun p H' hp => ⟨p, rfl, hp, q⟩⟩
end
end DL

/-! W9: the law's own body. -/
namespace DL
open PySem L2
open Evl (Ex)
theorem cps_cons {ta : TE} {tr : TA} {σ : St} {H : Hp} {Q : List V → Hp → Prop} (h : ta σ H (fun x H1 => tr σ H1 fun xs H2 => Q (x :: xs) H2)) : tCons ta tr σ H Q := h
theorem ex_none (H : Hp) : Ex (fun _ => none) H := fun a o z => by cases z
theorem env_none (σ : St) : EnvR (fun _ => none) σ (List.replicate σ.length none) := ⟨by rw [List.length_replicate], fun i d z => by
  have := List.mem_of_getElem? z
  rw [List.mem_replicate] at this
  exact absurd this.2 (by simp)⟩
def menu : List Int := [0, 1, 2, 3, 4, 4, 5, 5]
theorem ed_menu {ρ : DE} : ED (tLst (tCons (tC (.int 0)) (tCons (tC (.int 1)) (tCons (tC (.int 2)) (tCons (tC (.int 3)) (tCons (tC (.int 4)) (tCons (tC (.int 4)) (tCons (tC (.int 5)) (tCons (tC (.int 5)) tNil))))))))) ρ (L menu) :=
  ed_is (ed_lst (ea_cons (ed_int 0) (ea_cons (ed_int 1) (ea_cons (ed_int 2) (ea_cons (ed_int 3) (ea_cons (ed_int 4) (ea_cons (ed_int 4) (ea_cons (ed_int 5) (ea_cons (ed_int 5) ea_nil)))))))) (by decide)) rfl
theorem menu_in : ∀ k ∈ menu, 0 ≤ k ∧ k ≤ 5 := by decide
section
variable {P : Program} {w : World} {K : PySem.W.Frag} {mg : Str → Option Value} {base : Heap}
abbrev s_law_right : Stmt := top 45
abbrev nm_law_right : List Str := ["_law_pot_here", "_law_many", "_law_less"]
theorem sc_law_right : FnScope nm_law_right ["_law_pot_here"] (defScope s_law_right) := ⟨rfl, rfl, rfl, by decide +kernel, rfl, by decide +kernel, by decide +kernel⟩
theorem ok_law_right {k : Nat} {f : Addr} {fd : FuncData} (F : Fun K "_law_right" "_law_right" s_law_right f fd) (c_words_of : Cal P w K mg base k "words_of" ["many", "excess"] spwords_of) (c__law_two_right : Cal P w K mg base k "_law_two_right" ["_law_pot_here", "_law_many"] sp_law_two_right) (c__law_pick : Cal P w K mg base k "_law_pick" ["_law_pot_here", "_law_some"] sp_law_pick) (c__law_few_right : Cal P w K mg base k "_law_few_right" ["_law_many"] sp_law_few_right) (c__law_draw : Cal P w K mg base k "_law_draw" ["_law_pot_here", "_law_many"] sp_law_draw) :
    FnOk P w K mg base CX0 (k + 1) f fd ["_law_pot_here"] sp_law_right := by
  have nd := sc_law_right.nd
  obtain ⟨f_words_of, fd_words_of, G_words_of, g_words_of, k_words_of, b_words_of⟩ := c_words_of.ex
  obtain ⟨f__law_two_right, fd__law_two_right, G__law_two_right, g__law_two_right, k__law_two_right, b__law_two_right⟩ := c__law_two_right.ex
  obtain ⟨f__law_pick, fd__law_pick, G__law_pick, g__law_pick, k__law_pick, b__law_pick⟩ := c__law_pick.ex
  obtain ⟨f__law_few_right, fd__law_few_right, G__law_few_right, g__law_few_right, k__law_few_right, b__law_few_right⟩ := c__law_few_right.ex
  obtain ⟨f__law_draw, fd__law_draw, G__law_draw, g__law_draw, k__law_draw, b__law_draw⟩ := c__law_draw.ex
  refine F.ok sc_law_right _law_right_lenR (fun cdv A outer s H vs Q E hr h => ?_)
  refine ⟨_, (pss_cons (ps_if (pt_not (pt_val (pe_call G__law_few_right hr (by rfl) g__law_few_right k__law_few_right b__law_few_right .nil pass0 (pa_cons (pe_op op_add pe_int (pe_call G__law_draw hr (by rfl) g__law_draw k__law_draw b__law_draw .nil pass0 (pa_cons (pv 0) (pa_cons pe_int pa_nil)))) pa_nil)))) (pss_one (ps_ret pe_bl)) pss_nil)
      (pss_cons (ps_set (i := 1) nd rfl (Or.inl rfl) (pe_op op_add pe_int (pe_call G__law_pick hr (by rfl) g__law_pick k__law_pick b__law_pick .nil pass0 (pa_cons (pv 0) (pa_cons (pe_lst (pa_cons pe_int (pa_cons pe_int (pa_cons pe_int (pa_cons pe_int (pa_cons pe_int (pa_cons pe_int (pa_cons pe_int (pa_cons pe_int pa_nil))))))))) pa_nil)))))
      (pss_cons (ps_if (pt_not (pt_val (pe_call G__law_two_right hr (by rfl) g__law_two_right k__law_two_right b__law_two_right .nil pass0 (pa_cons (pv 0) (pa_cons (pv 1) pa_nil))))) (pss_one (ps_ret pe_bl)) pss_nil)
      (pss_cons (ps_set (i := 2) nd rfl (Or.inl rfl) (pe_call G_words_of hr (by rfl) g_words_of k_words_of b_words_of .nil pass0 (pa_cons pe_int (pa_cons pe_int pa_nil))))
      (pss_cons (ps_expr (pe_bm PySem.F.plainAttrs_list PySem.F.slot_list_append PySem.F.type_list_append mt_append (pe_ix (ixTK K) (pe_ix (ixLK K) (pv 2) pe_int (fun _ _ => rfl)) pe_int (fun _ _ => rfl)) (pa_cons pe_non pa_nil)))
      (pss_cons (ps_expr (pe_bm PySem.F.plainAttrs_list PySem.F.slot_list_append PySem.F.type_list_append mt_append (pv 2) (pa_cons pe_non pa_nil)))
      (pss_one (ps_ret (pe_cmpR (eqK K hr.units) (pe_call G_words_of hr (by rfl) g_words_of k_words_of b_words_of .nil pass0 (pa_cons pe_int (pa_cons pe_int pa_nil))) (pe_lst (pa_cons (pe_tup (pa_cons pe_int (pa_cons (pe_op op_rep (pe_lst (pa_cons pe_int (pa_cons pe_int pa_nil))) pe_int) pa_nil))) pa_nil)) (nomark _)))))))))), ?_⟩
  obtain ⟨p, rfl, hpot, q⟩ := h
  refine ⟨.ref p, rfl, p, 8, rfl, hpot, by decide, by decide, fun r H1 hr0 hr1 pot1 k1 => ?_⟩
  obtain ⟨rn, rfl⟩ : ∃ rn : Nat, r = (rn : Int) := ⟨r.toNat, by omega⟩
  refine ⟨2, (rn : Int), rfl, rfl, fun _ => none, [.int (2 + (rn : Int))], .bool true, ex_none _, .cons (.int _) .nil, ⟨2 + rn, by omega, by omega, by rw [Int.natCast_add]; rfl, rfl⟩, fun v G2 H2 g2 d2 => ?_⟩
  cases d2
  refine ⟨true, rfl, iteF ?_⟩
  have pot2 := pot1.ex g2.hh
  refine ⟨.ref p, rfl, cps_cons (ed_menu _ H2 _ (ex_none _) (env_none _) _ fun v3 G3 H3 g3 d3 => ?_)⟩
  refine ⟨G3, p, v3, menu.map PyData.int, rfl, g3.gh, d3, g3.fz p (pot_some pot2) rfl, pot2.ex g3.hh, by decide, by decide, fun u d H4 hd du pot4 k4 => ?_⟩
  obtain ⟨k0, hk0, rfl⟩ := List.mem_map.mp hd
  cases du
  obtain ⟨m0, m5⟩ := menu_in k0 hk0
  obtain ⟨m, hm⟩ : ∃ m : Nat, (2 : Int) + k0 = (m : Int) := ⟨(2 + k0).toNat, by omega⟩
  refine ⟨2, k0, rfl, rfl, ?_⟩
  refine ⟨.ref p, rfl, .int (2 + k0), rfl, p, m, by rw [hm]; rfl, pot4, by omega, by omega, fun H5 => ⟨true, rfl, iteF ?_⟩⟩
  refine ⟨fun _ => none, [.int 5, .int 2], LW (allWords 5 2), ex_none _, .cons (.int 5) (.cons (.int 2) .nil), ⟨5, 2, by decide, by decide, by decide, rfl, rfl⟩, fun v6 G6 H6 g6 d6 => ?_⟩
  rw [words_eq, w5] at d6
  cases d6 with
  | @lst l xs _ hl hx =>
    cases hx with
    | @cons x0 r0 _ _ hx0 hx1 =>
      cases hx1
      cases hx0 with
      | @tup t ys _ ht hy =>
        cases hy with
        | @cons y0 r1 _ _ hy0 hy1 =>
          cases hy1 with
          | @cons y1 r2 _ _ hy1 hy2 =>
            cases hy2
            cases hy1 with
            | @lst n zs _ hn hz =>
              rw [hz.ints (ns := [0, 1, 0, 1, 0, 1, 0, 1, 0, 1])] at hn
              have nln : l ≠ n := ne_of hl hn (by intro z; injection z with z; cases z)
              refine ⟨.ref l, rfl, l, _, 0, .ref t, rfl, rfl, Evl.sq_of (g6.gh _ _ hl), rfl, t, _, 1, .ref n, rfl, rfl, Evl.st_of (g6.gh _ _ ht), rfl, .inl ⟨rfl, _, Evl.sq_of (g6.gh _ _ hn)⟩, n, _, .non, rfl, rfl, g6.gh _ _ hn, by show 10 < sizeLine; decide, ?_⟩
              have hl7 : ∀ o, (upd H6 n o) l = some (.lst [V.ref t]) := fun o => by rw [upd_ne nln]; exact g6.gh _ _ hl
              refine ⟨.ref l, rfl, .inl ⟨rfl, _, Evl.sq_of (hl7 _)⟩, l, _, .non, rfl, rfl, hl7 _, by show 1 < sizeLine; decide, ?_⟩
              have e9 : ED (tOp (rEqD K) (tCall spwords_of [] E0 (tCons (tC (.int 5)) (tCons (tC (.int 2)) tNil))) (tLst (tCons (tTup (tCons (tC (.int 0)) (tCons (tOp rRep (tLst (tCons (tC (.int 0)) (tCons (tC (.int 1)) tNil))) (tC (.int 5))) tNil))) tNil))) [none, none, none] (.bool (wordsC 5 2 == [(0, base5)])) :=
                ed_eqLW (a := wordsC 5 2) (b := [(0, base5)]) (ed_call0 (ea_cons (ed_int 5) (ea_cons (ed_int 2) ea_nil)) ⟨5, 2, by decide, by decide, by decide, rfl, by rw [words_eq]⟩) (ed_lst (ea_cons (ed_tup (ea_cons (ed_int 0) (ea_cons ed_01 ea_nil)) (by show 2 ≤ 100000; decide)) ea_nil) (by show 1 ≤ 100000; decide))
              have e10 : (wordsC 5 2 == [(0, base5)]) = true := by rw [w5]; decide
              rw [e10] at e9
              refine cps_ret (e9 _ _ _ (ex_none _) (env_none _) _ fun v9 G9 H9 g9 d9 => ?_)
              cases d9
              exact q H9
end
end DL

/-! W10: each def as one that may be called; the levels. -/
namespace DL
open PySem L2
open Evl (Ex)
theorem Cal.up {P : Program} {w : World} {K : PySem.W.Frag} {mg : Str → Option Value} {base : Heap} {j : Nat} {x : Str} {ps : List Str} {sp : Sp} (h : Cal P w K mg base j x ps sp) (k : Nat) (l : j ≤ k) : Cal P w K mg base k x ps sp := by
  obtain ⟨f, fd, a, b⟩ := h.ex
  exact ⟨f, fd, a.mono l, b⟩
theorem CalD.up {P : Program} {w : World} {K : PySem.W.Frag} {mg : Str → Option Value} {base : Heap} {j : Nat} {x : Str} {ps : List Str} {dvs : List V} {sp : Sp} (h : CalD P w K mg base j x ps dvs sp) (k : Nat) (l : j ≤ k) : CalD P w K mg base k x ps dvs sp := by
  obtain ⟨f, fd, ds, a, b⟩ := h.ex
  exact ⟨f, fd, ds, a.mono l, b⟩
theorem CalK.up {P : Program} {w : World} {K : PySem.W.Frag} {mg : Str → Option Value} {base : Heap} {j : Nat} {x : Str} {ps ks : List Str} {gV : List V → List V → List V} {sp : Sp} (h : CalK P w K mg base j x ps ks gV sp) (k : Nat) (l : j ≤ k) : CalK P w K mg base k x ps ks gV sp := by
  obtain ⟨f, fd, gg, a, b⟩ := h.ex
  exact ⟨f, fd, gg, a.mono l, b⟩
/-- the def stands at its name -/
structure At (K : PySem.W.Frag) (mg : Str → Option Value) (x : Str) (st : Stmt) : Prop where
  ex : ∃ f fd, mg x = some (.ref f) ∧ Fun K x x st f fd
structure AtD (K : PySem.W.Frag) (mg : Str → Option Value) (x : Str) (st : Stmt) (dvs : List V) : Prop where
  ex : ∃ f fd, mg x = some (.ref f) ∧ FunD K x x (defArgs st) (defBody st) (defScope st) dvs [] f fd
theorem at_mk {K : PySem.W.Frag} {h : Heap} {mg : Str → Option Value} {x : Str} {st : Stmt} {f : Addr} {oc : Value} {od an : Option Addr} {osl : Array (Option Value)} {kV doc pm cdv ct : Value} (X : K.In h) (G : h.Ns mainGlobals mg)
    (a : PySem.W.nsIn K mainGlobals x = some (some (.ref f))) (l : K.lookup f = some ⟨oc, od, .func (PySem.W.fnOf x x (defArgs st) (defBody st) (defScope st) .none kV doc pm an cdv ct), osl⟩) (c : PySem.W.codeIn K cdv x = true) (k : PySem.W.keepIn K (.ref f) = true) : At K mg x st :=
  ⟨f, _, PySem.W.mg_of X G a, fun_mk l c k⟩
theorem atD_mk {K : PySem.W.Frag} {h : Heap} {mg : Str → Option Value} {x : Str} {st : Stmt} {f T : Addr} {oc tc : Value} {od an td : Option Addr} {osl tsl : Array (Option Value)} {kV doc pm cdv ct : Value} {n : Nat} {tk : Tok} (X : K.In h) (G : h.Ns mainGlobals mg)
    (a : PySem.W.nsIn K mainGlobals x = some (some (.ref f))) (l : K.lookup f = some ⟨oc, od, .func (PySem.W.fnOf x x (defArgs st) (defBody st) (defScope st) (.ref T) kV doc pm an cdv ct), osl⟩) (c : PySem.W.codeIn K cdv x = true) (k : PySem.W.keepIn K (.ref f) = true)
    (t : K.lookup T = some ⟨tc, td, .seq #[.none, .int 0 tk] n, tsl⟩) : AtD K mg x st [.non, .int 0] :=
  ⟨f, _, PySem.W.mg_of X G a, ⟨⟨oc, od, .ref T, kV, doc, pm, an, cdv, ct, osl, rfl, l, c, .inr ⟨by simp, T, _, [.none, .int 0 tk], n, rfl, t, rfl, .cons rfl (.cons ⟨_, rfl⟩ .nil)⟩, .inl rfl⟩, k⟩⟩
section
variable {P : Program} {w : World} {K : PySem.W.Frag} {mg : Str → Option Value} {base : Heap}

theorem mkturned_by {k : Nat} (D : At K mg "turned_by" sturned_by)  : Cal P w K mg base (k + 1) "turned_by" ["round_now", "steps"] spturned_by := by
  obtain ⟨f, fd, e, F⟩ := D.ex
  exact ⟨f, fd, okturned_by F , e, F.kp, F.binds fun _ _ _ _ _ _ us hl => match us, hl with | [_, _], _ => rfl⟩
theorem mkshifts_of {k : Nat} (D : At K mg "shifts_of" sshifts_of) (c_turned_by : Cal P w K mg base k "turned_by" ["round_now", "steps"] spturned_by) (m_range : mg "range" = none) (m_len : mg "len" = none) : Cal P w K mg base (k + 1) "shifts_of" ["numbers"] spshifts_of := by
  obtain ⟨f, fd, e, F⟩ := D.ex
  exact ⟨f, fd, okshifts_of F c_turned_by m_range m_len, e, F.kp, F.binds fun _ _ _ _ _ _ us hl => match us, hl with | [_], _ => rfl⟩
theorem mkcan_merge {k : Nat} (D : At K mg "can_merge" scan_merge) (m_len : mg "len" = none) : Cal P w K mg base (k + 1) "can_merge" ["lengths", "place"] spcan_merge := by
  obtain ⟨f, fd, e, F⟩ := D.ex
  exact ⟨f, fd, okcan_merge F m_len, e, F.kp, F.binds fun _ _ _ _ _ _ us hl => match us, hl with | [_, _], _ => rfl⟩
theorem mkmergeable {k : Nat} (D : At K mg "mergeable" smergeable) (c_can_merge : Cal P w K mg base k "can_merge" ["lengths", "place"] spcan_merge) (m_range : mg "range" = none) (m_len : mg "len" = none) : Cal P w K mg base (k + 1) "mergeable" ["lengths"] spmergeable := by
  obtain ⟨f, fd, e, F⟩ := D.ex
  exact ⟨f, fd, okmergeable F c_can_merge m_range m_len, e, F.kp, F.binds fun _ _ _ _ _ _ us hl => match us, hl with | [_], _ => rfl⟩
theorem mkis_round {k : Nat} (D : At K mg "is_round" sis_round) (c_mergeable : Cal P w K mg base k "mergeable" ["lengths"] spmergeable) (m_all : mg "all" = none) (m_range : mg "range" = none) (m_len : mg "len" = none) (m_sum : mg "sum" = none) (m_any : mg "any" = none) : Cal P w K mg base (k + 1) "is_round" ["numbers"] spis_round := by
  obtain ⟨f, fd, e, F⟩ := D.ex
  exact ⟨f, fd, okis_round F c_mergeable m_all m_range m_len m_sum m_any, e, F.kp, F.binds fun _ _ _ _ _ _ us hl => match us, hl with | [_], _ => rfl⟩
theorem mkleast_list {k : Nat} (D : At K mg "least_list" sleast_list) (c_shifts_of : Cal P w K mg base k "shifts_of" ["numbers"] spshifts_of) (m_min : mg "min" = none) : Cal P w K mg base (k + 1) "least_list" ["numbers"] spleast_list := by
  obtain ⟨f, fd, e, F⟩ := D.ex
  exact ⟨f, fd, okleast_list F c_shifts_of m_min, e, F.kp, F.binds fun _ _ _ _ _ _ us hl => match us, hl with | [_], _ => rfl⟩
theorem mkis_integer {k : Nat} (D : At K mg "is_integer" sis_integer) (m_isinstance : mg "isinstance" = none) (m_bool : mg "bool" = none) (m_int : mg "int" = none) : Cal P w K mg base (k + 1) "is_integer" ["value"] spis_integer := by
  obtain ⟨f, fd, e, F⟩ := D.ex
  exact ⟨f, fd, okis_integer F m_isinstance m_bool m_int, e, F.kp, F.binds fun _ _ _ _ _ _ us hl => match us, hl with | [_], _ => rfl⟩
theorem mkis_count {k : Nat} (D : At K mg "is_count" sis_count) (c_is_integer : Cal P w K mg base k "is_integer" ["value"] spis_integer) : Cal P w K mg base (k + 1) "is_count" ["value"] spis_count := by
  obtain ⟨f, fd, e, F⟩ := D.ex
  exact ⟨f, fd, okis_count F c_is_integer, e, F.kp, F.binds fun _ _ _ _ _ _ us hl => match us, hl with | [_], _ => rfl⟩
theorem mkis_list {k : Nat} (D : At K mg "is_list" sis_list) (m_isinstance : mg "isinstance" = none) (m_tuple : mg "tuple" = none) (m_list : mg "list" = none) : Cal P w K mg base (k + 1) "is_list" ["value"] spis_list := by
  obtain ⟨f, fd, e, F⟩ := D.ex
  exact ⟨f, fd, okis_list F m_isinstance m_tuple m_list, e, F.kp, F.binds fun _ _ _ _ _ _ us hl => match us, hl with | [_], _ => rfl⟩
theorem mkwant_at_most {k : Nat} (D : At K mg "want_at_most" swant_at_most)  : Cal P w K mg base (k + 1) "want_at_most" ["what", "limit", "number"] spwant_at_most := by
  obtain ⟨f, fd, e, F⟩ := D.ex
  exact ⟨f, fd, okwant_at_most F , e, F.kp, F.binds fun _ _ _ _ _ _ us hl => match us, hl with | [_, _, _], _ => rfl⟩
theorem mkfits {k : Nat} (D : At K mg "fits" sfits) (c_least_list : Cal P w K mg base k "least_list" ["numbers"] spleast_list) (c_is_round : Cal P w K mg base k "is_round" ["numbers"] spis_round) (m_len : mg "len" = none) (m_sum : mg "sum" = none) (m_MOST_CORNERS_words : ∃ t, mg "MOST_CORNERS_words" = some (.int 9 t)) : Cal P w K mg base (k + 1) "fits" ["peaks", "numbers"] spfits := by
  obtain ⟨f, fd, e, F⟩ := D.ex
  exact ⟨f, fd, okfits F c_least_list c_is_round m_len m_sum m_MOST_CORNERS_words, e, F.kp, F.binds fun _ _ _ _ _ _ us hl => match us, hl with | [_, _], _ => rfl⟩
theorem mkword_in {k : Nat} (D : At K mg "word_in" sword_in) (c_fits : Cal P w K mg base k "fits" ["peaks", "numbers"] spfits) (c_is_count : Cal P w K mg base k "is_count" ["value"] spis_count) (c_is_list : Cal P w K mg base k "is_list" ["value"] spis_list) (m_list : mg "list" = none) (m_all : mg "all" = none) (m_len : mg "len" = none) (m_isinstance : mg "isinstance" = none) (m_tuple : mg "tuple" = none) : Cal P w K mg base (k + 1) "word_in" ["value"] spword_in := by
  obtain ⟨f, fd, e, F⟩ := D.ex
  exact ⟨f, fd, okword_in F c_fits c_is_count c_is_list m_list m_all m_len m_isinstance m_tuple, e, F.kp, F.binds fun _ _ _ _ _ _ us hl => match us, hl with | [_], _ => rfl⟩
theorem mkis_word {k : Nat} (D : At K mg "is_word" sis_word) (c_word_in : Cal P w K mg base k "word_in" ["value"] spword_in) : Cal P w K mg base (k + 1) "is_word" ["value"] spis_word := by
  obtain ⟨f, fd, e, F⟩ := D.ex
  exact ⟨f, fd, okis_word F c_word_in, e, F.kp, F.binds fun _ _ _ _ _ _ us hl => match us, hl with | [_], _ => rfl⟩
theorem mkmay_follow {k : Nat} (D : At K mg "may_follow" smay_follow) (m_min : mg "min" = none) : Cal P w K mg base (k + 1) "may_follow" ["pairs", "near", "far", "total"] spmay_follow := by
  obtain ⟨f, fd, e, F⟩ := D.ex
  exact ⟨f, fd, okmay_follow F m_min, e, F.kp, F.binds fun _ _ _ _ _ _ us hl => match us, hl with | [_, _, _, _], _ => rfl⟩
theorem mklonger_pairs {n : Nat} {k : Nat} (D : At K mg "longer_pairs" slonger_pairs) (c_may_follow : Cal P w K mg base k "may_follow" ["pairs", "near", "far", "total"] spmay_follow) (c_longer_pairs : Cal P w K mg base k "longer_pairs" ["pairs", "half", "left", "total"] (splonger_pairs n)) (m_range : mg "range" = none) (m_len : mg "len" = none) : Cal P w K mg base (k + 1) "longer_pairs" ["pairs", "half", "left", "total"] (splonger_pairs (n + 1)) := by
  obtain ⟨f, fd, e, F⟩ := D.ex
  exact ⟨f, fd, oklonger_pairs F c_may_follow c_longer_pairs m_range m_len, e, F.kp, F.binds fun _ _ _ _ _ _ us hl => match us, hl with | [_, _, _, _], _ => rfl⟩
theorem mkis_least {k : Nat} (D : At K mg "is_least" sis_least) (c_shifts_of : Cal P w K mg base k "shifts_of" ["numbers"] spshifts_of) (m_all : mg "all" = none) : Cal P w K mg base (k + 1) "is_least" ["numbers"] spis_least := by
  obtain ⟨f, fd, e, F⟩ := D.ex
  exact ⟨f, fd, okis_least F c_shifts_of m_all, e, F.kp, F.binds fun _ _ _ _ _ _ us hl => match us, hl with | [_], _ => rfl⟩
theorem mkrounds_of {k : Nat} (D : At K mg "rounds_of" srounds_of) (c_longer_pairs : Cal P w K mg base k "longer_pairs" ["pairs", "half", "left", "total"] (splonger_pairs 10)) (c_is_least : Cal P w K mg base k "is_least" ["numbers"] spis_least) (c_is_round : Cal P w K mg base k "is_round" ["numbers"] spis_round) (m_range : mg "range" = none) : Cal P w K mg base (k + 1) "rounds_of" ["total"] sprounds_of := by
  obtain ⟨f, fd, e, F⟩ := D.ex
  exact ⟨f, fd, okrounds_of F c_longer_pairs c_is_least c_is_round m_range, e, F.kp, F.binds fun _ _ _ _ _ _ us hl => match us, hl with | [_], _ => rfl⟩
theorem mklists_of {k : Nat} (D : At K mg "lists_of" slists_of) (c_rounds_of : Cal P w K mg base k "rounds_of" ["total"] sprounds_of) (m_range : mg "range" = none) : Cal P w K mg base (k + 1) "lists_of" ["total", "excess"] splists_of := by
  obtain ⟨f, fd, e, F⟩ := D.ex
  exact ⟨f, fd, oklists_of F c_rounds_of m_range, e, F.kp, F.binds fun _ _ _ _ _ _ us hl => match us, hl with | [_, _], _ => rfl⟩
theorem mkwant_two {k : Nat} (D : At K mg "want_two" swant_two) (c_want_many_2 : CalD P w K mg base k "want_many" ["value", "most", "least"] [.int 0] spwant_many) (c_want_many_3 : CalD P w K mg base k "want_many" ["value", "most", "least"] [] spwant_many) (m_MOST_CORNERS_listing : ∃ t, mg "MOST_CORNERS_listing" = some (.int 9 t)) : Cal P w K mg base (k + 1) "want_two" ["many", "excess"] spwant_two := by
  obtain ⟨f, fd, e, F⟩ := D.ex
  exact ⟨f, fd, okwant_two F c_want_many_2 c_want_many_3 m_MOST_CORNERS_listing, e, F.kp, F.binds fun _ _ _ _ _ _ us hl => match us, hl with | [_, _], _ => rfl⟩
theorem mkall_words {k : Nat} (D : At K mg "all_words" sall_words) (c_lists_of : Cal P w K mg base k "lists_of" ["total", "excess"] splists_of) (m_sorted : mg "sorted" = none) (m_range : mg "range" = none) : Cal P w K mg base (k + 1) "all_words" ["many", "excess"] spall_words := by
  obtain ⟨f, fd, e, F⟩ := D.ex
  exact ⟨f, fd, okall_words F c_lists_of m_sorted m_range, e, F.kp, F.binds fun _ _ _ _ _ _ us hl => match us, hl with | [_, _], _ => rfl⟩
theorem mkwords_of {k : Nat} (D : At K mg "words_of" swords_of) (c_all_words : Cal P w K mg base k "all_words" ["many", "excess"] spall_words) (c_want_at_most : Cal P w K mg base k "want_at_most" ["what", "limit", "number"] spwant_at_most) (c_want_two : Cal P w K mg base k "want_two" ["many", "excess"] spwant_two) (m_MOST_LISTED : ∃ t, mg "MOST_LISTED" = some (.int 7 t)) : Cal P w K mg base (k + 1) "words_of" ["many", "excess"] spwords_of := by
  obtain ⟨f, fd, e, F⟩ := D.ex
  exact ⟨f, fd, okwords_of F c_all_words c_want_at_most c_want_two m_MOST_LISTED, e, F.kp, F.binds fun _ _ _ _ _ _ us hl => match us, hl with | [_, _], _ => rfl⟩
theorem mkword_count {k : Nat} (D : At K mg "word_count" sword_count) (c_words_of : Cal P w K mg base k "words_of" ["many", "excess"] spwords_of) (m_len : mg "len" = none) : Cal P w K mg base (k + 1) "word_count" ["many", "excess"] spword_count := by
  obtain ⟨f, fd, e, F⟩ := D.ex
  exact ⟨f, fd, okword_count F c_words_of m_len, e, F.kp, F.binds fun _ _ _ _ _ _ us hl => match us, hl with | [_, _], _ => rfl⟩
theorem mk_law_least {k : Nat} (D : At K mg "_law_least" s_law_least) (m_range : mg "range" = none) (m_len : mg "len" = none) (m_min : mg "min" = none) (m_list : mg "list" = none) : Cal P w K mg base (k + 1) "_law_least" ["_law_numbers"] sp_law_least := by
  obtain ⟨f, fd, e, F⟩ := D.ex
  exact ⟨f, fd, ok_law_least F m_range m_len m_min m_list, e, F.kp, F.binds fun _ _ _ _ _ _ us hl => match us, hl with | [_], _ => rfl⟩
theorem mk_law_sum_from {k : Nat} (D : At K mg "_law_sum_from" s_law_sum_from) (m_sum : mg "sum" = none) (m_range : mg "range" = none) (m_int : mg "int" = none) (m_len : mg "len" = none) : Cal P w K mg base (k + 1) "_law_sum_from" ["_law_numbers", "_law_at", "_law_many"] sp_law_sum_from := by
  obtain ⟨f, fd, e, F⟩ := D.ex
  exact ⟨f, fd, ok_law_sum_from F m_sum m_range m_int m_len, e, F.kp, F.binds fun _ _ _ _ _ _ us hl => match us, hl with | [_, _, _], _ => rfl⟩
theorem mk_law_merges {k : Nat} (D : At K mg "_law_merges" s_law_merges) (m_int : mg "int" = none) (m_len : mg "len" = none) : Cal P w K mg base (k + 1) "_law_merges" ["_law_numbers", "_law_at"] sp_law_merges := by
  obtain ⟨f, fd, e, F⟩ := D.ex
  exact ⟨f, fd, ok_law_merges F m_int m_len, e, F.kp, F.binds fun _ _ _ _ _ _ us hl => match us, hl with | [_, _], _ => rfl⟩
theorem mk_law_is_round {k : Nat} (D : At K mg "_law_is_round" s_law_is_round) (c__law_sum_from : Cal P w K mg base k "_law_sum_from" ["_law_numbers", "_law_at", "_law_many"] sp_law_sum_from) (c__law_merges : Cal P w K mg base k "_law_merges" ["_law_numbers", "_law_at"] sp_law_merges) (m_range : mg "range" = none) (m_len : mg "len" = none) : Cal P w K mg base (k + 1) "_law_is_round" ["_law_numbers"] sp_law_is_round := by
  obtain ⟨f, fd, e, F⟩ := D.ex
  exact ⟨f, fd, ok_law_is_round F c__law_sum_from c__law_merges m_range m_len, e, F.kp, F.binds fun _ _ _ _ _ _ us hl => match us, hl with | [_], _ => rfl⟩
theorem mk_law_few_right {k : Nat} (D : At K mg "_law_few_right" s_law_few_right) (c_word_count : Cal P w K mg base k "word_count" ["many", "excess"] spword_count) (c_word_count_kw : CalK P w K mg base k "word_count" ["many", "excess"] ["many", "excess"] gSame spword_count) (c_words_of : Cal P w K mg base k "words_of" ["many", "excess"] spwords_of) (c_words_of_kw : CalK P w K mg base k "words_of" ["many", "excess"] ["excess", "many"] gSwap spwords_of) (m_len : mg "len" = none) (m_sorted : mg "sorted" = none) (m_range : mg "range" = none) : Cal P w K mg base (k + 1) "_law_few_right" ["_law_many"] sp_law_few_right := by
  obtain ⟨f, fd, e, F⟩ := D.ex
  exact ⟨f, fd, ok_law_few_right F c_word_count c_word_count_kw c_words_of c_words_of_kw m_len m_sorted m_range, e, F.kp, F.binds fun _ _ _ _ _ _ us hl => match us, hl with | [_], _ => rfl⟩
theorem mk_law_draw {k : Nat} (D : At K mg "_law_draw" s_law_draw) (m_int : mg "int" = none) (m_divmod : mg "divmod" = none) : Cal P w K mg base (k + 1) "_law_draw" ["_law_pot_here", "_law_many"] sp_law_draw := by
  obtain ⟨f, fd, e, F⟩ := D.ex
  exact ⟨f, fd, ok_law_draw F m_int m_divmod, e, F.kp, F.binds fun _ _ _ _ _ _ us hl => match us, hl with | [_, _], _ => rfl⟩
theorem mk_law_pick {k : Nat} (D : At K mg "_law_pick" s_law_pick) (c__law_draw : Cal P w K mg base k "_law_draw" ["_law_pot_here", "_law_many"] sp_law_draw) (m_len : mg "len" = none) : Cal P w K mg base (k + 1) "_law_pick" ["_law_pot_here", "_law_some"] sp_law_pick := by
  obtain ⟨f, fd, e, F⟩ := D.ex
  exact ⟨f, fd, ok_law_pick F c__law_draw m_len, e, F.kp, F.binds fun _ _ _ _ _ _ us hl => match us, hl with | [_, _], _ => rfl⟩
theorem mk_law_drawn {k : Nat} (D : At K mg "_law_drawn" s_law_drawn) (c__law_least : Cal P w K mg base k "_law_least" ["_law_numbers"] sp_law_least) (c__law_draw : Cal P w K mg base k "_law_draw" ["_law_pot_here", "_law_many"] sp_law_draw) (c__law_pick : Cal P w K mg base k "_law_pick" ["_law_pot_here", "_law_some"] sp_law_pick) (m_range : mg "range" = none) (m_sum : mg "sum" = none) (m_len : mg "len" = none) (m_list : mg "list" = none) : Cal P w K mg base (k + 1) "_law_drawn" ["_law_pot_here", "_law_many"] sp_law_drawn := by
  obtain ⟨f, fd, e, F⟩ := D.ex
  exact ⟨f, fd, ok_law_drawn F c__law_least c__law_draw c__law_pick m_range m_sum m_len m_list, e, F.kp, F.binds fun _ _ _ _ _ _ us hl => match us, hl with | [_, _], _ => rfl⟩
theorem mk_law_two_right {k : Nat} (D : At K mg "_law_two_right" s_law_two_right) (c__law_drawn : Cal P w K mg base k "_law_drawn" ["_law_pot_here", "_law_many"] sp_law_drawn) (c_is_word : Cal P w K mg base k "is_word" ["value"] spis_word) (c__law_least : Cal P w K mg base k "_law_least" ["_law_numbers"] sp_law_least) (c__law_is_round : Cal P w K mg base k "_law_is_round" ["_law_numbers"] sp_law_is_round) (c_word_count : Cal P w K mg base k "word_count" ["many", "excess"] spword_count) (c_words_of : Cal P w K mg base k "words_of" ["many", "excess"] spwords_of) (m_range : mg "range" = none) (m_enumerate : mg "enumerate" = none) (m_sum : mg "sum" = none) (m_isinstance : mg "isinstance" = none) (m_list : mg "list" = none) (m_tuple : mg "tuple" = none) (m_len : mg "len" = none) (m_sorted : mg "sorted" = none) : Cal P w K mg base (k + 1) "_law_two_right" ["_law_pot_here", "_law_many"] sp_law_two_right := by
  obtain ⟨f, fd, e, F⟩ := D.ex
  exact ⟨f, fd, ok_law_two_right F c__law_drawn c_is_word c__law_least c__law_is_round c_word_count c_words_of m_range m_enumerate m_sum m_isinstance m_list m_tuple m_len m_sorted, e, F.kp, F.binds fun _ _ _ _ _ _ us hl => match us, hl with | [_, _], _ => rfl⟩
theorem mk_law_pot {k : Nat} (D : At K mg "_law_pot" s_law_pot) (m_int : mg "int" = none) (m_max : mg "max" = none) (m_len : mg "len" = none) (m_abs : mg "abs" = none) : Cal P w K mg base (k + 1) "_law_pot" ["_law_script", "_law_k"] (sp_law_pot K) := by
  obtain ⟨f, fd, e, F⟩ := D.ex
  exact ⟨f, fd, ok_law_pot F m_int m_max m_len m_abs, e, F.kp, F.binds fun _ _ _ _ _ _ us hl => match us, hl with | [_, _], _ => rfl⟩
theorem mk_law_right {k : Nat} (D : At K mg "_law_right" s_law_right) (c_words_of : Cal P w K mg base k "words_of" ["many", "excess"] spwords_of) (c__law_two_right : Cal P w K mg base k "_law_two_right" ["_law_pot_here", "_law_many"] sp_law_two_right) (c__law_pick : Cal P w K mg base k "_law_pick" ["_law_pot_here", "_law_some"] sp_law_pick) (c__law_few_right : Cal P w K mg base k "_law_few_right" ["_law_many"] sp_law_few_right) (c__law_draw : Cal P w K mg base k "_law_draw" ["_law_pot_here", "_law_many"] sp_law_draw) : Cal P w K mg base (k + 1) "_law_right" ["_law_pot_here"] sp_law_right := by
  obtain ⟨f, fd, e, F⟩ := D.ex
  exact ⟨f, fd, ok_law_right F c_words_of c__law_two_right c__law_pick c__law_few_right c__law_draw, e, F.kp, F.binds fun _ _ _ _ _ _ us hl => match us, hl with | [_], _ => rfl⟩
theorem mkwant_many_3 {k : Nat} (D : AtD K mg "want_many" swant_many [.non, .int 0]) (c_is_count : Cal P w K mg base k "is_count" ["value"] spis_count) : CalD P w K mg base (k + 1) "want_many" ["value", "most", "least"] [] spwant_many := by
  obtain ⟨f, fd, e, F⟩ := D.ex
  obtain ⟨ds, a, b⟩ := F.binds1 (ps := ["value", "most", "least"]) 3 2 (by simp) rfl fun T kV doc pm an cdv ct us its h1 h2 => match us, its, h1, h2 with | [_, _, _], [_, _], _, _ => ⟨_, rfl, rfl⟩
  exact ⟨f, fd, ds, okwant_many F c_is_count, e, F.kp, a, b⟩
theorem mkwant_many_2 {k : Nat} (D : AtD K mg "want_many" swant_many [.non, .int 0]) (c_is_count : Cal P w K mg base k "is_count" ["value"] spis_count) : CalD P w K mg base (k + 1) "want_many" ["value", "most", "least"] [.int 0] spwant_many := by
  obtain ⟨f, fd, e, F⟩ := D.ex
  obtain ⟨ds, a, b⟩ := F.binds1 (ps := ["value", "most", "least"]) 2 1 (by simp) rfl fun T kV doc pm an cdv ct us its h1 h2 => match us, its, h1, h2 with | [_, _], [_, _], _, _ => ⟨_, rfl, rfl⟩
  exact ⟨f, fd, ds, okwant_many F c_is_count, e, F.kp, a, b⟩
theorem rel_same {vs zs : List V} {us ws : List Value} (a : Vals vs us) (b : Vals zs ws) : Vals (gSame vs zs) (gSame us ws) := by
  cases a with
  | nil => exact b
  | cons r t => exact .nil
theorem rel_swap {vs zs : List V} {us ws : List Value} (a : Vals vs us) (b : Vals zs ws) : Vals (gSwap vs zs) (gSwap us ws) := by
  cases a with
  | nil => exact b.reverse
  | cons r t => exact .nil

theorem mkwords_of_kw {k : Nat} (D : At K mg "words_of" swords_of) (c_all_words : Cal P w K mg base k "all_words" ["many", "excess"] spall_words) (c_want_at_most : Cal P w K mg base k "want_at_most" ["what", "limit", "number"] spwant_at_most) (c_want_two : Cal P w K mg base k "want_two" ["many", "excess"] spwant_two) (m_MOST_LISTED : ∃ t, mg "MOST_LISTED" = some (.int 7 t)) : CalK P w K mg base (k + 1) "words_of" ["many", "excess"] ["excess", "many"] gSwap spwords_of := by
  obtain ⟨f, fd, e, F⟩ := D.ex
  obtain ⟨oc, od, kV, doc, pm, an, cdv, ct, osl, rfl, lk, hcd⟩ := F.ex
  refine ⟨f, _, gSwap, okwords_of F c_all_words c_want_at_most c_want_two m_MOST_LISTED, e, F.kp, ⟨fun s us ws _ hl => ?_, fun a b => rel_swap a b⟩⟩
  have h2 : us = [] ∧ ws.length = 2 := by
    cases us with
    | nil => exact ⟨rfl, (List.length_reverse).symm.trans hl⟩
    | cons a r => exact absurd (show (0 : Nat) = 2 from hl) (by decide)
  obtain ⟨rfl, h2⟩ := h2
  match ws, h2 with
  | [a, b], _ => exact .of_eq rfl
theorem mkword_count_kw {k : Nat} (D : At K mg "word_count" sword_count) (c_words_of : Cal P w K mg base k "words_of" ["many", "excess"] spwords_of) (m_len : mg "len" = none) : CalK P w K mg base (k + 1) "word_count" ["many", "excess"] ["many", "excess"] gSame spword_count := by
  obtain ⟨f, fd, e, F⟩ := D.ex
  obtain ⟨oc, od, kV, doc, pm, an, cdv, ct, osl, rfl, lk, hcd⟩ := F.ex
  refine ⟨f, _, gSame, okword_count F c_words_of m_len, e, F.kp, ⟨fun s us ws _ hl => ?_, fun a b => rel_same a b⟩⟩
  have h2 : us = [] ∧ ws.length = 2 := by
    cases us with
    | nil => exact ⟨rfl, hl⟩
    | cons a r => exact absurd (show (0 : Nat) = 2 from hl) (by decide)
  obtain ⟨rfl, h2⟩ := h2
  match ws, h2 with
  | [a, b], _ => exact .of_eq rfl
end
end DL

/-! W11: all defs together. -/
namespace DL
open PySem L2
theorem const_mk {K : PySem.W.Frag} {h : Heap} {mg : Str → Option Value} {x : Str} {u : Value} {n : Int} (X : K.In h) (G : h.Ns mainGlobals mg) (a : PySem.W.nsIn K mainGlobals x = some (some u)) (e : ∃ t, u = .int n t) : ∃ t, mg x = some (.int n t) := by
  obtain ⟨t, rfl⟩ := e
  exact ⟨t, PySem.W.mg_of X G a⟩
theorem law_all {P : Program} {w : World} {K : PySem.W.Frag} {mg : Str → Option Value} {base : Heap} {fl : Addr} {fdl : FuncData} (FL : Fun K "law" "law" slaw fl fdl)
    (D_turned_by : At K mg "turned_by" sturned_by)
    (D_shifts_of : At K mg "shifts_of" sshifts_of)
    (D_can_merge : At K mg "can_merge" scan_merge)
    (D_mergeable : At K mg "mergeable" smergeable)
    (D_is_round : At K mg "is_round" sis_round)
    (D_least_list : At K mg "least_list" sleast_list)
    (D_is_integer : At K mg "is_integer" sis_integer)
    (D_is_count : At K mg "is_count" sis_count)
    (D_is_list : At K mg "is_list" sis_list)
    (D_want_at_most : At K mg "want_at_most" swant_at_most)
    (D_fits : At K mg "fits" sfits)
    (D_word_in : At K mg "word_in" sword_in)
    (D_is_word : At K mg "is_word" sis_word)
    (D_want_many : AtD K mg "want_many" swant_many [.non, .int 0])
    (D_may_follow : At K mg "may_follow" smay_follow)
    (D_longer_pairs : At K mg "longer_pairs" slonger_pairs)
    (D_is_least : At K mg "is_least" sis_least)
    (D_rounds_of : At K mg "rounds_of" srounds_of)
    (D_lists_of : At K mg "lists_of" slists_of)
    (D_want_two : At K mg "want_two" swant_two)
    (D_all_words : At K mg "all_words" sall_words)
    (D_words_of : At K mg "words_of" swords_of)
    (D_word_count : At K mg "word_count" sword_count)
    (D__law_least : At K mg "_law_least" s_law_least)
    (D__law_sum_from : At K mg "_law_sum_from" s_law_sum_from)
    (D__law_merges : At K mg "_law_merges" s_law_merges)
    (D__law_is_round : At K mg "_law_is_round" s_law_is_round)
    (D__law_few_right : At K mg "_law_few_right" s_law_few_right)
    (D__law_draw : At K mg "_law_draw" s_law_draw)
    (D__law_pick : At K mg "_law_pick" s_law_pick)
    (D__law_drawn : At K mg "_law_drawn" s_law_drawn)
    (D__law_two_right : At K mg "_law_two_right" s_law_two_right)
    (D__law_pot : At K mg "_law_pot" s_law_pot)
    (D__law_right : At K mg "_law_right" s_law_right)
    (m_range : mg "range" = none)
    (m_len : mg "len" = none)
    (m_all : mg "all" = none)
    (m_sum : mg "sum" = none)
    (m_any : mg "any" = none)
    (m_min : mg "min" = none)
    (m_isinstance : mg "isinstance" = none)
    (m_bool : mg "bool" = none)
    (m_int : mg "int" = none)
    (m_tuple : mg "tuple" = none)
    (m_list : mg "list" = none)
    (m_sorted : mg "sorted" = none)
    (m_divmod : mg "divmod" = none)
    (m_enumerate : mg "enumerate" = none)
    (m_max : mg "max" = none)
    (m_abs : mg "abs" = none)
    (m_MOST_CORNERS_words : ∃ t, mg "MOST_CORNERS_words" = some (.int 9 t))
    (m_MOST_CORNERS_listing : ∃ t, mg "MOST_CORNERS_listing" = some (.int 9 t))
    (m_MOST_LISTED : ∃ t, mg "MOST_LISTED" = some (.int 7 t)) : FnOk P w K mg base CX0 20 fl fdl ["_law_script"] (splaw K) := by
  have c_turned_by : Cal P w K mg base 1 "turned_by" ["round_now", "steps"] spturned_by := mkturned_by D_turned_by 
  have c_shifts_of : Cal P w K mg base 2 "shifts_of" ["numbers"] spshifts_of := mkshifts_of D_shifts_of (c_turned_by.up 1 (by decide)) m_range m_len
  have c_can_merge : Cal P w K mg base 1 "can_merge" ["lengths", "place"] spcan_merge := mkcan_merge D_can_merge m_len
  have c_mergeable : Cal P w K mg base 2 "mergeable" ["lengths"] spmergeable := mkmergeable D_mergeable (c_can_merge.up 1 (by decide)) m_range m_len
  have c_is_round : Cal P w K mg base 3 "is_round" ["numbers"] spis_round := mkis_round D_is_round (c_mergeable.up 2 (by decide)) m_all m_range m_len m_sum m_any
  have c_least_list : Cal P w K mg base 3 "least_list" ["numbers"] spleast_list := mkleast_list D_least_list (c_shifts_of.up 2 (by decide)) m_min
  have c_is_integer : Cal P w K mg base 1 "is_integer" ["value"] spis_integer := mkis_integer D_is_integer m_isinstance m_bool m_int
  have c_is_count : Cal P w K mg base 2 "is_count" ["value"] spis_count := mkis_count D_is_count (c_is_integer.up 1 (by decide))
  have c_is_list : Cal P w K mg base 1 "is_list" ["value"] spis_list := mkis_list D_is_list m_isinstance m_tuple m_list
  have c_want_at_most : Cal P w K mg base 1 "want_at_most" ["what", "limit", "number"] spwant_at_most := mkwant_at_most D_want_at_most 
  have c_fits : Cal P w K mg base 4 "fits" ["peaks", "numbers"] spfits := mkfits D_fits (c_least_list.up 3 (by decide)) (c_is_round.up 3 (by decide)) m_len m_sum m_MOST_CORNERS_words
  have c_word_in : Cal P w K mg base 5 "word_in" ["value"] spword_in := mkword_in D_word_in (c_fits.up 4 (by decide)) (c_is_count.up 4 (by decide)) (c_is_list.up 4 (by decide)) m_list m_all m_len m_isinstance m_tuple
  have c_is_word : Cal P w K mg base 6 "is_word" ["value"] spis_word := mkis_word D_is_word (c_word_in.up 5 (by decide))
  have c_want_many_3 : CalD P w K mg base 3 "want_many" ["value", "most", "least"] [] spwant_many := mkwant_many_3 D_want_many (c_is_count.up 2 (by decide))
  have c_want_many_2 : CalD P w K mg base 3 "want_many" ["value", "most", "least"] [.int 0] spwant_many := mkwant_many_2 D_want_many (c_is_count.up 2 (by decide))
  have c_may_follow : Cal P w K mg base 1 "may_follow" ["pairs", "near", "far", "total"] spmay_follow := mkmay_follow D_may_follow m_min
  have c_longer_pairs : ∀ n : Nat, Cal P w K mg base (n + 2) "longer_pairs" ["pairs", "half", "left", "total"] (splonger_pairs n) := fun n => by
    induction n with
    | zero =>
      obtain ⟨f, fd, e, F⟩ := D_longer_pairs.ex
      exact ⟨f, fd, lp_none, e, F.kp, F.binds fun _ _ _ _ _ _ us hl => match us, hl with | [_, _, _, _], _ => rfl⟩
    | succ n ih => exact mklonger_pairs D_longer_pairs (c_may_follow.up (n + 2) (by omega)) ih m_range m_len
  have c_is_least : Cal P w K mg base 3 "is_least" ["numbers"] spis_least := mkis_least D_is_least (c_shifts_of.up 2 (by decide)) m_all
  have c_rounds_of : Cal P w K mg base 13 "rounds_of" ["total"] sprounds_of := mkrounds_of D_rounds_of ((c_longer_pairs 10).up 12 (by decide)) (c_is_least.up 12 (by decide)) (c_is_round.up 12 (by decide)) m_range
  have c_lists_of : Cal P w K mg base 14 "lists_of" ["total", "excess"] splists_of := mklists_of D_lists_of (c_rounds_of.up 13 (by decide)) m_range
  have c_want_two : Cal P w K mg base 4 "want_two" ["many", "excess"] spwant_two := mkwant_two D_want_two (c_want_many_2.up 3 (by decide)) (c_want_many_3.up 3 (by decide)) m_MOST_CORNERS_listing
  have c_all_words : Cal P w K mg base 15 "all_words" ["many", "excess"] spall_words := mkall_words D_all_words (c_lists_of.up 14 (by decide)) m_sorted m_range
  have c_words_of : Cal P w K mg base 16 "words_of" ["many", "excess"] spwords_of := mkwords_of D_words_of (c_all_words.up 15 (by decide)) (c_want_at_most.up 15 (by decide)) (c_want_two.up 15 (by decide)) m_MOST_LISTED
  have c_words_of_kw : CalK P w K mg base 16 "words_of" ["many", "excess"] ["excess", "many"] gSwap spwords_of := mkwords_of_kw D_words_of (c_all_words.up 15 (by decide)) (c_want_at_most.up 15 (by decide)) (c_want_two.up 15 (by decide)) m_MOST_LISTED
  have c_word_count : Cal P w K mg base 17 "word_count" ["many", "excess"] spword_count := mkword_count D_word_count (c_words_of.up 16 (by decide)) m_len
  have c_word_count_kw : CalK P w K mg base 17 "word_count" ["many", "excess"] ["many", "excess"] gSame spword_count := mkword_count_kw D_word_count (c_words_of.up 16 (by decide)) m_len
  have c__law_least : Cal P w K mg base 1 "_law_least" ["_law_numbers"] sp_law_least := mk_law_least D__law_least m_range m_len m_min m_list
  have c__law_sum_from : Cal P w K mg base 1 "_law_sum_from" ["_law_numbers", "_law_at", "_law_many"] sp_law_sum_from := mk_law_sum_from D__law_sum_from m_sum m_range m_int m_len
  have c__law_merges : Cal P w K mg base 1 "_law_merges" ["_law_numbers", "_law_at"] sp_law_merges := mk_law_merges D__law_merges m_int m_len
  have c__law_is_round : Cal P w K mg base 2 "_law_is_round" ["_law_numbers"] sp_law_is_round := mk_law_is_round D__law_is_round (c__law_sum_from.up 1 (by decide)) (c__law_merges.up 1 (by decide)) m_range m_len
  have c__law_few_right : Cal P w K mg base 18 "_law_few_right" ["_law_many"] sp_law_few_right := mk_law_few_right D__law_few_right (c_word_count.up 17 (by decide)) (c_word_count_kw.up 17 (by decide)) (c_words_of.up 17 (by decide)) (c_words_of_kw.up 17 (by decide)) m_len m_sorted m_range
  have c__law_draw : Cal P w K mg base 1 "_law_draw" ["_law_pot_here", "_law_many"] sp_law_draw := mk_law_draw D__law_draw m_int m_divmod
  have c__law_pick : Cal P w K mg base 2 "_law_pick" ["_law_pot_here", "_law_some"] sp_law_pick := mk_law_pick D__law_pick (c__law_draw.up 1 (by decide)) m_len
  have c__law_drawn : Cal P w K mg base 3 "_law_drawn" ["_law_pot_here", "_law_many"] sp_law_drawn := mk_law_drawn D__law_drawn (c__law_least.up 2 (by decide)) (c__law_draw.up 2 (by decide)) (c__law_pick.up 2 (by decide)) m_range m_sum m_len m_list
  have c__law_two_right : Cal P w K mg base 18 "_law_two_right" ["_law_pot_here", "_law_many"] sp_law_two_right := mk_law_two_right D__law_two_right (c__law_drawn.up 17 (by decide)) (c_is_word.up 17 (by decide)) (c__law_least.up 17 (by decide)) (c__law_is_round.up 17 (by decide)) (c_word_count.up 17 (by decide)) (c_words_of.up 17 (by decide)) m_range m_enumerate m_sum m_isinstance m_list m_tuple m_len m_sorted
  have c__law_pot : Cal P w K mg base 1 "_law_pot" ["_law_script", "_law_k"] (sp_law_pot K) := mk_law_pot D__law_pot m_int m_max m_len m_abs
  have c__law_right : Cal P w K mg base 19 "_law_right" ["_law_pot_here"] sp_law_right := mk_law_right D__law_right (c_words_of.up 18 (by decide)) (c__law_two_right.up 18 (by decide)) (c__law_pick.up 18 (by decide)) (c__law_few_right.up 18 (by decide)) (c__law_draw.up 18 (by decide))
  exact oklaw FL (c__law_right.up 19 (by decide)) (c__law_pot.up 19 (by decide))
theorem law_mk {l : PySem.W.OpenLaw} {w : World} {K : PySem.W.Frag} {mg : Str → Option Value} {fa : Addr} (hfa : mg "law" = some (.ref fa))
    (D_turned_by : At K mg "turned_by" sturned_by)
    (D_shifts_of : At K mg "shifts_of" sshifts_of)
    (D_can_merge : At K mg "can_merge" scan_merge)
    (D_mergeable : At K mg "mergeable" smergeable)
    (D_is_round : At K mg "is_round" sis_round)
    (D_least_list : At K mg "least_list" sleast_list)
    (D_is_integer : At K mg "is_integer" sis_integer)
    (D_is_count : At K mg "is_count" sis_count)
    (D_is_list : At K mg "is_list" sis_list)
    (D_want_at_most : At K mg "want_at_most" swant_at_most)
    (D_fits : At K mg "fits" sfits)
    (D_word_in : At K mg "word_in" sword_in)
    (D_is_word : At K mg "is_word" sis_word)
    (D_want_many : AtD K mg "want_many" swant_many [.non, .int 0])
    (D_may_follow : At K mg "may_follow" smay_follow)
    (D_longer_pairs : At K mg "longer_pairs" slonger_pairs)
    (D_is_least : At K mg "is_least" sis_least)
    (D_rounds_of : At K mg "rounds_of" srounds_of)
    (D_lists_of : At K mg "lists_of" slists_of)
    (D_want_two : At K mg "want_two" swant_two)
    (D_all_words : At K mg "all_words" sall_words)
    (D_words_of : At K mg "words_of" swords_of)
    (D_word_count : At K mg "word_count" sword_count)
    (D__law_least : At K mg "_law_least" s_law_least)
    (D__law_sum_from : At K mg "_law_sum_from" s_law_sum_from)
    (D__law_merges : At K mg "_law_merges" s_law_merges)
    (D__law_is_round : At K mg "_law_is_round" s_law_is_round)
    (D__law_few_right : At K mg "_law_few_right" s_law_few_right)
    (D__law_draw : At K mg "_law_draw" s_law_draw)
    (D__law_pick : At K mg "_law_pick" s_law_pick)
    (D__law_drawn : At K mg "_law_drawn" s_law_drawn)
    (D__law_two_right : At K mg "_law_two_right" s_law_two_right)
    (D__law_pot : At K mg "_law_pot" s_law_pot)
    (D__law_right : At K mg "_law_right" s_law_right)
    (D_law : At K mg "law" slaw)
    (m_range : mg "range" = none)
    (m_len : mg "len" = none)
    (m_all : mg "all" = none)
    (m_sum : mg "sum" = none)
    (m_any : mg "any" = none)
    (m_min : mg "min" = none)
    (m_isinstance : mg "isinstance" = none)
    (m_bool : mg "bool" = none)
    (m_int : mg "int" = none)
    (m_tuple : mg "tuple" = none)
    (m_list : mg "list" = none)
    (m_sorted : mg "sorted" = none)
    (m_divmod : mg "divmod" = none)
    (m_enumerate : mg "enumerate" = none)
    (m_max : mg "max" = none)
    (m_abs : mg "abs" = none)
    (m_MOST_CORNERS_words : ∃ t, mg "MOST_CORNERS_words" = some (.int 9 t))
    (m_MOST_CORNERS_listing : ∃ t, mg "MOST_CORNERS_listing" = some (.int 9 t))
    (m_MOST_LISTED : ∃ t, mg "MOST_LISTED" = some (.int 7 t)) :
    ∃ fd : FuncData, (∀ (s : Shared) (v : Value), BindsTo s fd ⟨[v], []⟩ [("_law_script", v)]) ∧ ∀ base : Heap, K.In base → base.Ns mainGlobals mg → FnOk l.prog w K mg base CX0 20 fa fd ["_law_script"] (splaw K) := by
  obtain ⟨f, fd, e, F⟩ := D_law.ex
  rw [hfa] at e
  cases e
  obtain ⟨oc, od, kV, doc, pm, an, cdv, ct, osl, rfl, lk, hcd⟩ := F.ex
  refine ⟨PySem.W.fnOf "law" "law" (defArgs slaw) (defBody slaw) (defScope slaw) .none kV doc pm an cdv ct, fun s v => .of_eq rfl, fun base _ _ => ?_⟩
  exact law_all F D_turned_by D_shifts_of D_can_merge D_mergeable D_is_round D_least_list D_is_integer D_is_count D_is_list D_want_at_most D_fits D_word_in D_is_word D_want_many D_may_follow D_longer_pairs D_is_least D_rounds_of D_lists_of D_want_two D_all_words D_words_of D_word_count D__law_least D__law_sum_from D__law_merges D__law_is_round D__law_few_right D__law_draw D__law_pick D__law_drawn D__law_two_right D__law_pot D__law_right m_range m_len m_all m_sum m_any m_min m_isinstance m_bool m_int m_tuple m_list m_sorted m_divmod m_enumerate m_max m_abs m_MOST_CORNERS_words m_MOST_CORNERS_listing m_MOST_LISTED
end DL

open PySem PySem.W PyProof.Rows
set_option maxHeartbeats 0 in
theorem PySem.Challenge.cw_fewcorners_k81_whole_all_words_listed_holds : PySem.Challenge.rw_fewcorners_k81_whole_all_words_listed.Holds := by
  w_on; o_law; k_head; (case hw => w_witness2)
  k_fill
  refine L2.walk_of (l := PySem.Challenge.rw_fewcorners_k81_whole_all_words_listed) (n := 63) (k := 20) (x := "_law_script") (CX := fun _ => L2.CX0) (sp := fun w => DL.splaw _) rfl (by decide) rfl ⟨rfl, by decide, by decide⟩ (fun w h Y => PySem.W.kIn_of Y) ?F (fun _ _ a ns hl _ hS => ⟨a, ns, rfl, hS, hl, fun _ => rfl⟩) (fun _ _ _ _ _ h => h)
  case F =>
    intro w mg fa h KX G hmg
    refine' DL.law_mk hmg ?d_turned_by ?d_shifts_of ?d_can_merge ?d_mergeable ?d_is_round ?d_least_list ?d_is_integer ?d_is_count ?d_is_list ?d_want_at_most ?d_fits ?d_word_in ?d_is_word ?d_want_many ?d_may_follow ?d_longer_pairs ?d_is_least ?d_rounds_of ?d_lists_of ?d_want_two ?d_all_words ?d_words_of ?d_word_count ?d__law_least ?d__law_sum_from ?d__law_merges ?d__law_is_round ?d__law_few_right ?d__law_draw ?d__law_pick ?d__law_drawn ?d__law_two_right ?d__law_pot ?d__law_right ?d_law ?b_range ?b_len ?b_all ?b_sum ?b_any ?b_min ?b_isinstance ?b_bool ?b_int ?b_tuple ?b_list ?b_sorted ?b_divmod ?b_enumerate ?b_max ?b_abs ?k_MOST_CORNERS_words ?k_MOST_CORNERS_listing ?k_MOST_LISTED
    case d_turned_by => (refine' DL.at_mk KX G ?a ?l ?c ?k; (case a => k_is); (case l => k_is); (case c => k_is); (case k => k_is))
    case d_shifts_of => (refine' DL.at_mk KX G ?a ?l ?c ?k; (case a => k_is); (case l => k_is); (case c => k_is); (case k => k_is))
    case d_can_merge => (refine' DL.at_mk KX G ?a ?l ?c ?k; (case a => k_is); (case l => k_is); (case c => k_is); (case k => k_is))
    case d_mergeable => (refine' DL.at_mk KX G ?a ?l ?c ?k; (case a => k_is); (case l => k_is); (case c => k_is); (case k => k_is))
    case d_is_round => (refine' DL.at_mk KX G ?a ?l ?c ?k; (case a => k_is); (case l => k_is); (case c => k_is); (case k => k_is))
    case d_least_list => (refine' DL.at_mk KX G ?a ?l ?c ?k; (case a => k_is); (case l => k_is); (case c => k_is); (case k => k_is))
    case d_is_integer => (refine' DL.at_mk KX G ?a ?l ?c ?k; (case a => k_is); (case l => k_is); (case c => k_is); (case k => k_is))
    case d_is_count => (refine' DL.at_mk KX G ?a ?l ?c ?k; (case a => k_is); (case l => k_is); (case c => k_is); (case k => k_is))
    case d_is_list => (refine' DL.at_mk KX G ?a ?l ?c ?k; (case a => k_is); (case l => k_is); (case c => k_is); (case k => k_is))
    case d_want_at_most => (refine' DL.at_mk KX G ?a ?l ?c ?k; (case a => k_is); (case l => k_is); (case c => k_is); (case k => k_is))
    case d_fits => (refine' DL.at_mk KX G ?a ?l ?c ?k; (case a => k_is); (case l => k_is); (case c => k_is); (case k => k_is))
    case d_word_in => (refine' DL.at_mk KX G ?a ?l ?c ?k; (case a => k_is); (case l => k_is); (case c => k_is); (case k => k_is))
    case d_is_word => (refine' DL.at_mk KX G ?a ?l ?c ?k; (case a => k_is); (case l => k_is); (case c => k_is); (case k => k_is))
    case d_want_many => (refine' DL.atD_mk KX G ?a ?l ?c ?k ?t; (case a => k_is); (case l => k_is); (case c => k_is); (case k => k_is); (case t => k_is))
    case d_may_follow => (refine' DL.at_mk KX G ?a ?l ?c ?k; (case a => k_is); (case l => k_is); (case c => k_is); (case k => k_is))
    case d_longer_pairs => (refine' DL.at_mk KX G ?a ?l ?c ?k; (case a => k_is); (case l => k_is); (case c => k_is); (case k => k_is))
    case d_is_least => (refine' DL.at_mk KX G ?a ?l ?c ?k; (case a => k_is); (case l => k_is); (case c => k_is); (case k => k_is))
    case d_rounds_of => (refine' DL.at_mk KX G ?a ?l ?c ?k; (case a => k_is); (case l => k_is); (case c => k_is); (case k => k_is))
    case d_lists_of => (refine' DL.at_mk KX G ?a ?l ?c ?k; (case a => k_is); (case l => k_is); (case c => k_is); (case k => k_is))
    case d_want_two => (refine' DL.at_mk KX G ?a ?l ?c ?k; (case a => k_is); (case l => k_is); (case c => k_is); (case k => k_is))
    case d_all_words => (refine' DL.at_mk KX G ?a ?l ?c ?k; (case a => k_is); (case l => k_is); (case c => k_is); (case k => k_is))
    case d_words_of => (refine' DL.at_mk KX G ?a ?l ?c ?k; (case a => k_is); (case l => k_is); (case c => k_is); (case k => k_is))
    case d_word_count => (refine' DL.at_mk KX G ?a ?l ?c ?k; (case a => k_is); (case l => k_is); (case c => k_is); (case k => k_is))
    case d__law_least => (refine' DL.at_mk KX G ?a ?l ?c ?k; (case a => k_is); (case l => k_is); (case c => k_is); (case k => k_is))
    case d__law_sum_from => (refine' DL.at_mk KX G ?a ?l ?c ?k; (case a => k_is); (case l => k_is); (case c => k_is); (case k => k_is))
    case d__law_merges => (refine' DL.at_mk KX G ?a ?l ?c ?k; (case a => k_is); (case l => k_is); (case c => k_is); (case k => k_is))
    case d__law_is_round => (refine' DL.at_mk KX G ?a ?l ?c ?k; (case a => k_is); (case l => k_is); (case c => k_is); (case k => k_is))
    case d__law_few_right => (refine' DL.at_mk KX G ?a ?l ?c ?k; (case a => k_is); (case l => k_is); (case c => k_is); (case k => k_is))
    case d__law_draw => (refine' DL.at_mk KX G ?a ?l ?c ?k; (case a => k_is); (case l => k_is); (case c => k_is); (case k => k_is))
    case d__law_pick => (refine' DL.at_mk KX G ?a ?l ?c ?k; (case a => k_is); (case l => k_is); (case c => k_is); (case k => k_is))
    case d__law_drawn => (refine' DL.at_mk KX G ?a ?l ?c ?k; (case a => k_is); (case l => k_is); (case c => k_is); (case k => k_is))
    case d__law_two_right => (refine' DL.at_mk KX G ?a ?l ?c ?k; (case a => k_is); (case l => k_is); (case c => k_is); (case k => k_is))
    case d__law_pot => (refine' DL.at_mk KX G ?a ?l ?c ?k; (case a => k_is); (case l => k_is); (case c => k_is); (case k => k_is))
    case d__law_right => (refine' DL.at_mk KX G ?a ?l ?c ?k; (case a => k_is); (case l => k_is); (case c => k_is); (case k => k_is))
    case d_law => (refine' DL.at_mk KX G ?a ?l ?c ?k; (case a => k_is); (case l => k_is); (case c => k_is); (case k => k_is))
    case b_range => (refine' PySem.W.mg_none_of KX G ?z; (case z => k_is))
    case b_len => (refine' PySem.W.mg_none_of KX G ?z; (case z => k_is))
    case b_all => (refine' PySem.W.mg_none_of KX G ?z; (case z => k_is))
    case b_sum => (refine' PySem.W.mg_none_of KX G ?z; (case z => k_is))
    case b_any => (refine' PySem.W.mg_none_of KX G ?z; (case z => k_is))
    case b_min => (refine' PySem.W.mg_none_of KX G ?z; (case z => k_is))
    case b_isinstance => (refine' PySem.W.mg_none_of KX G ?z; (case z => k_is))
    case b_bool => (refine' PySem.W.mg_none_of KX G ?z; (case z => k_is))
    case b_int => (refine' PySem.W.mg_none_of KX G ?z; (case z => k_is))
    case b_tuple => (refine' PySem.W.mg_none_of KX G ?z; (case z => k_is))
    case b_list => (refine' PySem.W.mg_none_of KX G ?z; (case z => k_is))
    case b_sorted => (refine' PySem.W.mg_none_of KX G ?z; (case z => k_is))
    case b_divmod => (refine' PySem.W.mg_none_of KX G ?z; (case z => k_is))
    case b_enumerate => (refine' PySem.W.mg_none_of KX G ?z; (case z => k_is))
    case b_max => (refine' PySem.W.mg_none_of KX G ?z; (case z => k_is))
    case b_abs => (refine' PySem.W.mg_none_of KX G ?z; (case z => k_is))
    case k_MOST_CORNERS_words => (refine' DL.const_mk KX G ?z ?e; (case z => k_is); (case e => exact ⟨_, rfl⟩))
    case k_MOST_CORNERS_listing => (refine' DL.const_mk KX G ?z ?e; (case z => k_is); (case e => exact ⟨_, rfl⟩))
    case k_MOST_LISTED => (refine' DL.const_mk KX G ?z ?e; (case z => k_is); (case e => exact ⟨_, rfl⟩))
