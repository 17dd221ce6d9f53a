import PyProof.Rows.All
import Wide.All
import OpenK.AllK
import Wide.FinOn
import HandS.ForMost
import HandS.Evl
import HandS.Star
import HandS.IsInst
import HandS.TupAny
import HandS.Conv
import HandS.Style
import HandS.Strs
import HandS.Deep
import HandS.SortInts
import HandS.Wide
import PySem.Challenge.RW_bodyforbody_k45_whole_agreements_handed
import HandS.SetFor
import KE.GoesEnum
import HandS.Iter
import HandS.DictComp
import HandS.DictEq
import KE.KDictKeyed
import HandS.Lambda
import PyProof.ReprRoads
import KE.KExcSuper
import HandS.Exc
import HandS.TryMany
import HandS.WordsExc
import HandS.EndTab
import KE.KNestM
section
set_option Elab.async false
set_option linter.all false
set_option maxRecDepth 100000
/-! Data that stands still, and what evaluates to it. -/
namespace Bw
open PySem PySem.Spec PyProof.Rows L2
abbrev Ex := Evl.Ex
abbrev EvT := Evl.EvT
theorem Ex.refl (H : Hp) : Ex H H := fun _ _ h => h
theorem Ex.trans {H H1 H2 : Hp} (a : Ex H H1) (b : Ex H1 H2) : Ex H H2 := fun x o h => b x o (a x o h)
theorem Ex.new {H : Hp} {p : Addr} {o : HO} (h : H p = none) : Ex H (upd H p o) := Evl.Ex.new h
theorem exl {K : PySem.W.Frag} {H H' : Hp} {a : Addr} {xs : List V} (e : Ex H H') (h : SqL K H a xs) : SqL K H' a xs := Evl.ex_l e h
theorem ext {K : PySem.W.Frag} {H H' : Hp} {a : Addr} {xs : List V} (e : Ex H H') (h : SqT K H a xs) : SqT K H' a xs := Evl.ex_t e h
mutual
theorem dp_ex {K : PySem.W.Frag} {H H' : Hp} (e : Ex H H') : ∀ {d : PyData} {v : V}, Dp K H v d → Dp K H' v d
  | .none, _, .non => .non
  | .bool _, _, .bl b => .bl b
  | .int _, _, .int i => .int i
  | .str _, _, .str x => .str x
  | .list _, _, .lst h hs => .lst (exl e h) (dpa_ex e hs)
  | .tuple _, _, .tup h hs => .tup (ext e h) (dpa_ex e hs)
theorem dpa_ex {K : PySem.W.Frag} {H H' : Hp} (e : Ex H H') : ∀ {ds : List PyData} {vs : List V}, DpAll K H vs ds → DpAll K H' vs ds
  | [], _, .nil => .nil
  | _ :: _, _, .cons h hs => .cons (dp_ex e h) (dpa_ex e hs)
end
section
variable {K : PySem.W.Frag} {H H' : Hp} {v : V} {vs : List V} {d : PyData} {ds : List PyData}
theorem dp_int {i : Int} (h : Dp K H v (.int i)) : v = .int i := by cases h; rfl
theorem dp_bl {b : Bool} (h : Dp K H v (.bool b)) : v = .bl b := by cases h; rfl
theorem dp_non (h : Dp K H v .none) : v = .non := by cases h; rfl
theorem dp_str {x : Str} (h : Dp K H v (.str x)) : v = .str x := by cases h; rfl
theorem dp_tup (h : Dp K H v (.tuple ds)) : ∃ a xs, v = .ref a ∧ SqT K H a xs ∧ DpAll K H xs ds := by cases h with | tup h1 h2 => exact ⟨_, _, rfl, h1, h2⟩
theorem dp_lst (h : Dp K H v (.list ds)) : ∃ a xs, v = .ref a ∧ SqL K H a xs ∧ DpAll K H xs ds := by cases h with | lst h1 h2 => exact ⟨_, _, rfl, h1, h2⟩
theorem dpa_len : ∀ {vs : List V} {ds : List PyData}, DpAll K H vs ds → vs.length = ds.length
  | _, _, .nil => rfl
  | _, _, .cons _ h => by rw [List.length_cons, List.length_cons, dpa_len h]
theorem dpa_app : ∀ {vs ws : List V} {ds es : List PyData}, DpAll K H vs ds → DpAll K H ws es → DpAll K H (vs ++ ws) (ds ++ es)
  | _, _, _, _, .nil, h => h
  | _, _, _, _, .cons h hs, k => .cons h (dpa_app hs k)
theorem dpa_get : ∀ {vs : List V} {ds : List PyData} {i : Nat} {d : PyData}, DpAll K H vs ds → ds[i]? = some d → ∃ v, vs[i]? = some v ∧ Dp K H v d
  | _, _, _, _, .nil, e => by simp at e
  | _, _, 0, _, .cons h _, e => ⟨_, rfl, by simp at e; rw [← e]; exact h⟩
  | _, _, i + 1, _, .cons _ hs, e => by
    obtain ⟨v, h1, h2⟩ := dpa_get (i := i) hs (by simpa using e)
    exact ⟨v, by simpa using h1, h2⟩
theorem dpa_get' {i : Nat} (h : DpAll K H vs ds) (e : vs[i]? = some v) : ∃ d, ds[i]? = some d ∧ Dp K H v d := by
  have hl : i < ds.length := by rw [← dpa_len h]; exact (List.getElem?_eq_some_iff.mp e).1
  obtain ⟨v', h1, h2⟩ := dpa_get h (List.getElem?_eq_getElem hl)
  rw [e] at h1
  cases h1
  exact ⟨_, List.getElem?_eq_getElem hl, h2⟩
theorem dpa_take : ∀ {vs : List V} {ds : List PyData} (n : Nat), DpAll K H vs ds → DpAll K H (vs.take n) (ds.take n)
  | _, _, 0, _ => by rw [List.take_zero, List.take_zero]; exact .nil
  | _, _, _ + 1, .nil => .nil
  | _, _, n + 1, .cons h hs => .cons h (dpa_take n hs)
theorem dpa_drop : ∀ {vs : List V} {ds : List PyData} (n : Nat), DpAll K H vs ds → DpAll K H (vs.drop n) (ds.drop n)
  | _, _, 0, h => h
  | _, _, _ + 1, .nil => .nil
  | _, _, n + 1, .cons _ hs => dpa_drop n hs
theorem dpa_rev : ∀ {vs : List V} {ds : List PyData}, DpAll K H vs ds → DpAll K H vs.reverse ds.reverse
  | _, _, .nil => .nil
  | _, _, .cons h hs => by
    rw [List.reverse_cons, List.reverse_cons]
    exact dpa_app (dpa_rev hs) (.cons h .nil)
theorem dpa_set : ∀ {vs : List V} {ds : List PyData} {v : V} {d : PyData} (i : Nat), DpAll K H vs ds → Dp K H v d → DpAll K H (vs.set i v) (ds.set i d)
  | _, _, _, _, _, .nil, _ => .nil
  | _, _, _, _, 0, .cons _ hs, k => .cons k hs
  | _, _, _, _, i + 1, .cons h hs, k => .cons h (dpa_set i hs k)
theorem dpa_init {vs : List V} {ds : List PyData} (h : DpAll K H vs ds) : DpAll K H vs.dropLast ds.dropLast := by
  rw [List.dropLast_eq_take, List.dropLast_eq_take, dpa_len h]; exact dpa_take _ h
theorem dpa_ints : ∀ {ns : List Int} {vs : List V}, DpAll K H vs (ns.map .int) → vs = ns.map .int
  | [], _, .nil => rfl
  | _ :: _, _, .cons h hs => by rw [dp_int h, dpa_ints hs]; rfl
theorem ints_dpa : ∀ ns : List Int, DpAll K H (ns.map .int) (ns.map .int)
  | [] => .nil
  | n :: ns => .cons (.int n) (ints_dpa ns)
theorem dpa_bools : ∀ {bs : List Bool} {vs : List V}, DpAll K H vs (bs.map .bool) → vs = bs.map .bl
  | [], _, .nil => rfl
  | _ :: _, _, .cons h hs => by rw [dp_bl h, dpa_bools hs]; rfl
end
/-! ### data without lists: it stays when a list is written -/
mutual
def noL : PyData → Bool
  | .list _ => false
  | .tuple ds => noLs ds
  | .dict _ => false
  | _ => true
def noLs : List PyData → Bool
  | [] => true
  | d :: ds => noL d && noLs ds
end
/-- all but the list at l stays -/
def But (l : Addr) (H H' : Hp) : Prop := ∀ a o, a ≠ l → H a = some o → H' a = some o
theorem But.upd {l : Addr} {H : Hp} {o : HO} : But l H (L2.upd H l o) := fun a u h e => by rw [upd_ne h]; exact e
theorem sqt_but {K : PySem.W.Frag} {H H' : Hp} {l a : Addr} {xs ys : List V} (b : But l H H') (hl : H l = some (.lst ys)) (h : SqT K H a xs) : SqT K H' a xs := by
  have ne : ∀ {o}, H a = some o → (∀ zs, o ≠ .lst zs) → a ≠ l := fun e k z => by
    rw [z, hl] at e; exact k ys (Option.some.inj e).symm
  rcases h with (h | ⟨o, h⟩) | h
  · exact .inl (.inl (b _ _ (ne h fun _ z => by cases z) h))
  · exact .inl (.inr ⟨o, b _ _ (ne h fun _ z => by cases z) h⟩)
  · exact .inr h
mutual
theorem dp_but {K : PySem.W.Frag} {H H' : Hp} {l : Addr} {ys : List V} (b : But l H H') (hl : H l = some (.lst ys)) : ∀ {d : PyData} {v : V}, noL d = true → Dp K H v d → Dp K H' v d
  | .none, _, _, .non => .non
  | .bool _, _, _, .bl b => .bl b
  | .int _, _, _, .int i => .int i
  | .str _, _, _, .str x => .str x
  | .list _, _, n, _ => by simp [noL] at n
  | .tuple _, _, n, .tup h hs => .tup (sqt_but b hl h) (dpa_but b hl (by simpa [noL] using n) hs)
theorem dpa_but {K : PySem.W.Frag} {H H' : Hp} {l : Addr} {ys : List V} (b : But l H H') (hl : H l = some (.lst ys)) : ∀ {ds : List PyData} {vs : List V}, noLs ds = true → DpAll K H vs ds → DpAll K H' vs ds
  | [], _, _, .nil => .nil
  | _ :: _, _, n, .cons h hs => by
    simp only [noLs, Bool.and_eq_true] at n
    exact .cons (dp_but b hl n.1 h) (dpa_but b hl n.2 hs)
end
theorem noLs_all {ds : List PyData} (h : ∀ d ∈ ds, noL d = true) : noLs ds = true := by
  induction ds with
  | nil => rfl
  | cons d ds ih =>
    simp only [noLs, Bool.and_eq_true]
    exact ⟨h d List.mem_cons_self, ih fun e he => h e (List.mem_cons_of_mem _ he)⟩
theorem noLs_ints (ns : List Int) : noLs (ns.map .int) = true := noLs_all fun d hd => by
  obtain ⟨n, _, rfl⟩ := List.mem_map.mp hd
  rfl
theorem noLs_app {a b : List PyData} (h1 : noLs a = true) (h2 : noLs b = true) : noLs (a ++ b) = true := by
  induction a with
  | nil => exact h2
  | cons d ds ih =>
    simp only [noLs, Bool.and_eq_true, List.cons_append] at h1 ⊢
    exact ⟨h1.1, ih h1.2⟩
/-! ### what evaluates to data -/
def EvD (K : PySem.W.Frag) (te : TE) (σ : L2.St) (H : Hp) (d : PyData) : Prop := ∀ H1, Ex H H1 → ∀ Q : VK, (∀ v H2, Ex H1 H2 → Dp K H2 v d → Q v H2) → te σ H1 Q
def EvDA (K : PySem.W.Frag) (ta : TA) (σ : L2.St) (H : Hp) (ds : List PyData) : Prop := ∀ H1, Ex H H1 → ∀ Q : List V → Hp → Prop, (∀ vs H2, Ex H1 H2 → DpAll K H2 vs ds → Q vs H2) → ta σ H1 Q
/-- an operation on two data -/
def RD (K : PySem.W.Frag) (r : R2) (H : Hp) (d e f : PyData) : Prop := ∀ x y H1, Ex H H1 → Dp K H1 x d → Dp K H1 y e → ∀ Q : VK, (∀ v H2, Ex H1 H2 → Dp K H2 v f → Q v H2) → r x y H1 Q
/-- a built-in's call on data -/
def RCD (K : PySem.W.Frag) (r : List V → Hp → VK → Prop) (H : Hp) (ds : List PyData) (f : PyData) : Prop := ∀ vs H1, Ex H H1 → DpAll K H1 vs ds → ∀ Q : VK, (∀ v H2, Ex H1 H2 → Dp K H2 v f → Q v H2) → r vs H1 Q
section
variable {K : PySem.W.Frag} {σ : L2.St} {H H' : Hp} {ta tb te tx : TE} {t u : TT} {x y z v : V} {r r' : R2} {d e f : PyData} {ds es : List PyData}
theorem EvD.mono (e : Ex H H') (h : EvD K te σ H d) : EvD K te σ H' d := fun H1 a Q q => h H1 (e.trans a) Q q
theorem EvDA.mono {ta : TA} (e : Ex H H') (h : EvDA K ta σ H ds) : EvDA K ta σ H' ds := fun H1 a Q q => h H1 (e.trans a) Q q
theorem evd_is (h : EvD K te σ H d) (q : d = e) : EvD K te σ H e := q ▸ h
theorem evd_var {i : Nat} {G : Hp} (h : σ[i]? = some (some v)) (hd : Dp K G v d) (g : Ex G H) : EvD K (tVar i) σ H d := fun H1 e _ q => ⟨v, h, q v H1 (Ex.refl H1) (dp_ex (g.trans e) hd)⟩
theorem evd_int {i : Int} : EvD K (tC (.int i)) σ H (.int i) := fun H1 _ _ q => q _ H1 (Ex.refl H1) (.int i)
theorem evd_bl {b : Bool} : EvD K (tC (.bl b)) σ H (.bool b) := fun H1 _ _ q => q _ H1 (Ex.refl H1) (.bl b)
theorem evd_non : EvD K (tC .non) σ H .none := fun H1 _ _ q => q _ H1 (Ex.refl H1) .non
theorem evd_str {s : Str} : EvD K (tC (.str s)) σ H (.str s) := fun H1 _ _ q => q _ H1 (Ex.refl H1) (.str s)
theorem evd_op (ha : EvD K ta σ H d) (hb : EvD K tb σ H e) (hr : RD K r H d e f) : EvD K (tOp r ta tb) σ H f := fun H1 g Q q =>
  ha H1 g _ fun x H2 g2 dx => hb H2 (g.trans g2) _ fun y H3 g3 dy => hr x y H3 (g.trans (g2.trans g3)) (dp_ex g3 dx) dy Q fun v H4 g4 dv => q v H4 (g2.trans (g3.trans g4)) dv
theorem evd_un {r : V → Hp → VK → Prop} {i j : Int} (ha : EvD K ta σ H (.int i)) (hr : ∀ H1 Q, Q (.int j) H1 → r (.int i) H1 Q) : EvD K (tUn r ta) σ H (.int j) := fun H1 g Q q =>
  ha H1 g _ fun x H2 g2 dx => by
    cases dp_int dx
    exact hr H2 Q (q _ H2 g2 (.int j))
theorem evda_nil : EvDA K tNil σ H [] := fun H1 _ _ q => q [] H1 (Ex.refl H1) .nil
theorem evda_cons {tr : TA} (h : EvD K ta σ H d) (hr : EvDA K tr σ H ds) : EvDA K (tCons ta tr) σ H (d :: ds) := fun H1 g Q q =>
  h H1 g _ fun x H2 g2 dx => hr H2 (g.trans g2) _ fun xs H3 g3 dxs => q _ H3 (g2.trans g3) (.cons (dp_ex g3 dx) dxs)
theorem evda_starT {tr : TA} (h : EvD K ta σ H (.tuple es)) (hr : EvDA K tr σ H ds) : EvDA K (StX.tStar K ta tr) σ H (es ++ ds) := fun H1 g Q q =>
  h H1 g _ fun x H2 g2 dx => by
    obtain ⟨a, xs, rfl, h1, h2⟩ := dp_tup dx
    exact ⟨a, xs, rfl, .inl h1, hr H2 (g.trans g2) _ fun ys H3 g3 dys => q _ H3 (g2.trans g3) (dpa_app (dpa_ex g3 h2) dys)⟩
theorem evda_starL {tr : TA} (h : EvD K ta σ H (.list es)) (hr : EvDA K tr σ H ds) : EvDA K (StX.tStar K ta tr) σ H (es ++ ds) := fun H1 g Q q =>
  h H1 g _ fun x H2 g2 dx => by
    obtain ⟨a, xs, rfl, h1, h2⟩ := dp_lst dx
    exact ⟨a, xs, rfl, .inr h1, hr H2 (g.trans g2) _ fun ys H3 g3 dys => q _ H3 (g2.trans g3) (dpa_app (dpa_ex g3 h2) dys)⟩
theorem evd_tup {ta : TA} (h : EvDA K ta σ H ds) (hl : ds.length ≤ 100000 := by decide) : EvD K (tTup ta) σ H (.tuple ds) := fun H1 g Q q =>
  h H1 g _ fun xs H2 g2 dxs => ⟨by rw [dpa_len dxs]; exact Evl.sz_of hl, fun p np => q _ _ (g2.trans (Ex.new np)) (.tup (SqT.of upd_same) (dpa_ex (Ex.new np) dxs))⟩
theorem evd_lst {ta : TA} (h : EvDA K ta σ H ds) (hl : ds.length ≤ 100000 := by decide) : EvD K (tLst ta) σ H (.list ds) := fun H1 g Q q =>
  h H1 g _ fun xs H2 g2 dxs => ⟨by rw [dpa_len dxs]; exact Evl.sz_of hl, fun p np => q _ _ (g2.trans (Ex.new np)) (.lst (SqL.of upd_same) (dpa_ex (Ex.new np) dxs))⟩
theorem evd_if {b : Bool} (h : EvT t σ H b) (h1 : b = true → EvD K ta σ H d) (h2 : b = false → EvD K tb σ H d) : EvD K (tIf t ta tb) σ H d := fun H1 g Q q => h H1 g _ fun H2 g2 => by
  cases b with
  | true => rw [if_pos rfl]; exact h1 rfl H2 (g.trans g2) Q fun v H3 g3 dv => q v H3 (g2.trans g3) dv
  | false => rw [if_neg Bool.false_ne_true]; exact h2 rfl H2 (g.trans g2) Q fun v H3 g3 dv => q v H3 (g2.trans g3) dv
/-! tests -/
theorem et_test {b : Bool} (h : EvD K te σ H (.bool b)) : EvT (tTest te) σ H b := fun H1 g _ q => h H1 g _ fun v H2 g2 dv => ⟨b, dp_bl dv, q H2 g2⟩
theorem et_B {b : Bool} (h : EvD K te σ H (.bool b)) : EvT (tB te) σ H b := fun H1 g _ q => h H1 g _ fun v H2 g2 dv => ⟨b, dp_bl dv, q H2 g2⟩
theorem et_and {a b : Bool} (h1 : EvT t σ H a) (h2 : a = true → EvT u σ H b) : EvT (tAnd t u) σ H (a && b) := Evl.et_and h1 h2
theorem et_or {a b : Bool} (h1 : EvT t σ H a) (h2 : a = false → EvT u σ H b) : EvT (tOr t u) σ H (a || b) := Evl.et_or h1 h2
theorem et_not {a : Bool} (h1 : EvT t σ H a) : EvT (tNot t) σ H (!a) := Evl.et_not h1
theorem et_is {a b : Bool} (h : EvT t σ H a) (e : a = b) : EvT t σ H b := e ▸ h
theorem et_mono {a : Bool} (e : Ex H H') (h : EvT t σ H a) : EvT t σ H' a := fun H1 g Q q => h H1 (e.trans g) Q q
theorem evd_andV {a b : Bool} (h1 : EvD K ta σ H (.bool a)) (h2 : a = true → EvD K tb σ H (.bool b)) : EvD K (tAndV ta tb) σ H (.bool (a && b)) := fun H1 g Q q =>
  h1 H1 g _ fun v H2 g2 dv => ⟨a, dp_bl dv, by
    cases a with
    | true => rw [if_pos rfl]; exact h2 rfl H2 (g.trans g2) Q fun w H3 g3 dw => q w H3 (g2.trans g3) dw
    | false => rw [if_neg Bool.false_ne_true]; exact q _ H2 g2 (.bl false)⟩
theorem evd_orV {a b : Bool} (h1 : EvD K ta σ H (.bool a)) (h2 : a = false → EvD K tb σ H (.bool b)) : EvD K (tOrV ta tb) σ H (.bool (a || b)) := fun H1 g Q q =>
  h1 H1 g _ fun v H2 g2 dv => ⟨a, dp_bl dv, by
    cases a with
    | true => rw [if_pos rfl]; exact q _ H2 g2 (.bl true)
    | false => rw [if_neg Bool.false_ne_true]; exact h2 rfl H2 (g.trans g2) Q fun w H3 g3 dw => q w H3 (g2.trans g3) dw⟩
theorem evd_notV {a : Bool} (h1 : EvD K ta σ H (.bool a)) : EvD K (tNotV ta) σ H (.bool (!a)) := fun H1 g Q q => h1 H1 g _ fun v H2 g2 dv => ⟨a, dp_bl dv, q _ H2 g2 (.bl _)⟩
/-! operators -/
theorem rd_orL (h : RD K r H d e f) : RD K (fun x y H Q => r x y H Q ∨ r' x y H Q) H d e f := fun x y H1 g dx dy Q q => .inl (h x y H1 g dx dy Q q)
theorem rd_orR (h : RD K r' H d e f) : RD K (fun x y H Q => r x y H Q ∨ r' x y H Q) H d e f := fun x y H1 g dx dy Q q => .inr (h x y H1 g dx dy Q q)
theorem rd_I0 {g : Int → Int → V} {i j : Int} (h : ∀ H1, Dp K H1 (g i j) f) : RD K (rI0 g) H (.int i) (.int j) f := fun x y H1 _ dx dy _ q => ⟨i, j, dp_int dx, dp_int dy, q _ H1 (Ex.refl H1) (h H1)⟩
theorem rd_I {C : Int → Int → Prop} {g : Int → Int → V} {i j : Int} (hc : C i j) (h : ∀ H1, Dp K H1 (g i j) f) : RD K (rI C g) H (.int i) (.int j) f := fun x y H1 _ dx dy _ q => ⟨i, j, dp_int dx, dp_int dy, hc, q _ H1 (Ex.refl H1) (h H1)⟩
theorem rd_eqD (h1 : SeqAt.shaped d = true) (h2 : SeqAt.shaped e = true) : RD K (rEqD K) H d e (.bool (PyData.eqv d e)) := fun x y H1 _ dx dy _ q => ⟨d, e, dx, dy, h1, h2, q _ H1 (Ex.refl H1) (.bl _)⟩
theorem rd_neD (h1 : SeqAt.shaped d = true) (h2 : SeqAt.shaped e = true) : RD K (rNeD K) H d e (.bool (!PyData.eqv d e)) := fun x y H1 _ dx dy _ q => ⟨d, e, dx, dy, h1, h2, q _ H1 (Ex.refl H1) (.bl _)⟩
theorem rd_isN {b : Bool} (h : ∀ x H1, Dp K H1 x d → decide (x = V.non) = b) : RD K (fun x y H Q => y = .non ∧ Q (.bl (decide (x = .non))) H) H d .none (.bool b) := fun x y H1 _ dx dy _ q => ⟨dp_non dy, by rw [h x H1 dx]; exact q _ H1 (Ex.refl H1) (.bl _)⟩
theorem rd_notN {b : Bool} (h : ∀ x H1, Dp K H1 x d → (!decide (x = V.non)) = b) : RD K (fun x y H Q => y = .non ∧ Q (.bl (!decide (x = .non))) H) H d .none (.bool b) := fun x y H1 _ dx dy _ q => ⟨dp_non dy, by rw [h x H1 dx]; exact q _ H1 (Ex.refl H1) (.bl _)⟩
/-- an item of a list or tuple of data by its place -/
theorem rd_ix {i : Int} {ds : List PyData} (h : (∃ k, d = .tuple ds ∧ atI ds i = some k ∧ f = k) ∨ ∃ k, d = .list ds ∧ atI ds i = some k ∧ f = k) : RD K (rIx K) H d (.int i) f := fun x y H1 _ dx dy Q q => by
  have key : ∀ {xs : List V} {k : PyData}, DpAll K H1 xs ds → atI ds i = some k → ∃ v, atI xs i = some v ∧ Dp K H1 v k := fun {xs k} h1 h2 => by
    unfold atI at h2 ⊢
    rw [dpa_len h1]
    cases hn : ixN ds.length i with
    | none => rw [hn] at h2; cases h2
    | some j =>
      rw [hn, Option.bind_some] at h2
      rw [Option.bind_some]
      exact dpa_get h1 h2
  rcases h with ⟨k, rfl, hk, rfl⟩ | ⟨k, rfl, hk, rfl⟩
  · obtain ⟨a, xs, rfl, h1, h2⟩ := dp_tup dx
    obtain ⟨v, hv, dv⟩ := key h2 hk
    exact .inr (.inl ⟨a, xs, i, v, rfl, dp_int dy, h1, hv, q v H1 (Ex.refl H1) dv⟩)
  · obtain ⟨a, xs, rfl, h1, h2⟩ := dp_lst dx
    obtain ⟨v, hv, dv⟩ := key h2 hk
    exact .inl ⟨a, xs, i, v, rfl, dp_int dy, h1, hv, q v H1 (Ex.refl H1) dv⟩
theorem rd_ixT {i : Int} {ds : List PyData} (h : atI ds i = some f) : RD K (rIx K) H (.tuple ds) (.int i) f := rd_ix (.inl ⟨f, rfl, h, rfl⟩)
theorem rd_ixL {i : Int} {ds : List PyData} (h : atI ds i = some f) : RD K (rIx K) H (.list ds) (.int i) f := rd_ix (.inr ⟨f, rfl, h, rfl⟩)
/-- tuples put together -/
theorem rd_catA {ds es : List PyData} (hl : ds.length + es.length ≤ 100000) : RD K (rCatA K) H (.tuple ds) (.tuple es) (.tuple (ds ++ es)) := fun x y H1 _ dx dy Q q => by
  obtain ⟨a, xs, rfl, h1, h2⟩ := dp_tup dx
  obtain ⟨b, ys, rfl, k1, k2⟩ := dp_tup dy
  refine ⟨a, b, xs, ys, rfl, rfl, h1, k1, by rw [dpa_len h2, dpa_len k2]; exact Evl.sz_of hl, fun z => ?_, fun _ z => ?_, fun _ _ p np => q _ _ (Ex.new np) (.tup (SqT.of upd_same) (dpa_ex (Ex.new np) (dpa_app h2 k2)))⟩
  · subst z
    cases h2
    exact q _ H1 (Ex.refl H1) (.tup k1 k2)
  · subst z
    cases k2
    exact q _ H1 (Ex.refl H1) (by rw [List.append_nil]; exact .tup h1 h2)
end
end Bw
end
section
set_option Elab.async false
set_option linter.all false
set_option maxRecDepth 100000
namespace Bw
open PySem PySem.Spec PyProof.Rows L2
section
variable {K : PySem.W.Frag} {σ : L2.St} {H H' : Hp} {ta tb te tx : TE} {t u : TT} {x y z v : V} {r r' : R2} {d e f : PyData} {ds es : List PyData}
/-! ### built-ins by values -/
theorem evd_cb {r : List V → Hp → VK → Prop} {ta : TA} (h : EvDA K ta σ H ds) (hr : RCD K r H ds f) : EvD K (tCB r ta) σ H f := fun H1 g Q q =>
  h H1 g _ fun vs H2 g2 dvs => hr vs H2 (g.trans g2) dvs Q fun v H3 g3 dv => q v H3 (g2.trans g3) dv
theorem rcd_orL {r r' : List V → Hp → VK → Prop} (h : RCD K r H ds f) : RCD K (fun xs H Q => r xs H Q ∨ r' xs H Q) H ds f := fun vs H1 g dv Q q => .inl (h vs H1 g dv Q q)
theorem rcd_orR {r r' : List V → Hp → VK → Prop} (h : RCD K r' H ds f) : RCD K (fun xs H Q => r xs H Q ∨ r' xs H Q) H ds f := fun vs H1 g dv Q q => .inr (h vs H1 g dv Q q)
theorem dpa1 {vs : List V} (h : DpAll K H vs [d]) : ∃ v, vs = [v] ∧ Dp K H v d := by
  cases h with | cons h1 h2 => cases h2; exact ⟨_, rfl, h1⟩
theorem dpa2 {vs : List V} (h : DpAll K H vs [d, e]) : ∃ v w, vs = [v, w] ∧ Dp K H v d ∧ Dp K H w e := by
  cases h with | cons h1 h2 =>
    obtain ⟨w, rfl, h3⟩ := dpa1 h2
    exact ⟨_, _, rfl, h1, h3⟩
theorem dpa3 {vs : List V} (h : DpAll K H vs [d, e, f]) : ∃ v w z, vs = [v, w, z] ∧ Dp K H v d ∧ Dp K H w e ∧ Dp K H z f := by
  cases h with | cons h1 h2 =>
    obtain ⟨w, z, rfl, h3, h4⟩ := dpa2 h2
    exact ⟨_, _, _, rfl, h1, h3, h4⟩
/-- len of a list or tuple -/
theorem rc_len : RCD K (fun xs H Q => ∃ p ys, xs = [.ref p] ∧ (SqL K H p ys ∨ SqT K H p ys) ∧ Q (.int ys.length) H) H [.list ds] (.int ds.length) := fun vs H1 g dv Q q => by
  obtain ⟨v, rfl, h⟩ := dpa1 dv
  obtain ⟨a, xs, rfl, h1, h2⟩ := dp_lst h
  exact ⟨a, xs, rfl, .inl h1, by rw [dpa_len h2]; exact q _ H1 (Ex.refl H1) (.int _)⟩
theorem rc_lenT : RCD K (fun xs H Q => ∃ p ys, xs = [.ref p] ∧ (SqL K H p ys ∨ SqT K H p ys) ∧ Q (.int ys.length) H) H [.tuple ds] (.int ds.length) := fun vs H1 g dv Q q => by
  obtain ⟨v, rfl, h⟩ := dpa1 dv
  obtain ⟨a, xs, rfl, h1, h2⟩ := dp_tup h
  exact ⟨a, xs, rfl, .inr h1, by rw [dpa_len h2]; exact q _ H1 (Ex.refl H1) (.int _)⟩
/-- tuple(..) of a list, of a tuple -/
theorem rc_tupL : RCD K (fun xs H Q => ∃ p ys, xs = [.ref p] ∧ ((SqL K H p ys ∧ ∀ l, H l = none → Q (.ref l) (upd H l (.tup ys))) ∨ (SqT K H p ys ∧ Q (.ref p) H))) H [.list ds] (.tuple ds) := fun vs H1 g dv Q q => by
  obtain ⟨v, rfl, h⟩ := dpa1 dv
  obtain ⟨a, xs, rfl, h1, h2⟩ := dp_lst h
  exact ⟨a, xs, rfl, .inl ⟨h1, fun l hl => q _ _ (Ex.new hl) (.tup (SqT.of upd_same) (dpa_ex (Ex.new hl) h2))⟩⟩
theorem rc_tupT : RCD K (fun xs H Q => ∃ p ys, xs = [.ref p] ∧ ((SqL K H p ys ∧ ∀ l, H l = none → Q (.ref l) (upd H l (.tup ys))) ∨ (SqT K H p ys ∧ Q (.ref p) H))) H [.tuple ds] (.tuple ds) := fun vs H1 g dv Q q => by
  obtain ⟨v, rfl, h⟩ := dpa1 dv
  obtain ⟨a, xs, rfl, h1, h2⟩ := dp_tup h
  exact ⟨a, xs, rfl, .inr ⟨h1, q _ H1 (Ex.refl H1) (.tup h1 h2)⟩⟩
/-- list(..) -/
theorem rc_listL : RCD K (fun xs H Q => ∃ p ys, xs = [.ref p] ∧ (SqL K H p ys ∨ SqT K H p ys) ∧ ∀ l, H l = none → Q (.ref l) (upd H l (.lst ys))) H [.list ds] (.list ds) := fun vs H1 g dv Q q => by
  obtain ⟨v, rfl, h⟩ := dpa1 dv
  obtain ⟨a, xs, rfl, h1, h2⟩ := dp_lst h
  exact ⟨a, xs, rfl, .inl h1, fun l hl => q _ _ (Ex.new hl) (.lst (SqL.of upd_same) (dpa_ex (Ex.new hl) h2))⟩
theorem rc_listT : RCD K (fun xs H Q => ∃ p ys, xs = [.ref p] ∧ (SqL K H p ys ∨ SqT K H p ys) ∧ ∀ l, H l = none → Q (.ref l) (upd H l (.lst ys))) H [.tuple ds] (.list ds) := fun vs H1 g dv Q q => by
  obtain ⟨v, rfl, h⟩ := dpa1 dv
  obtain ⟨a, xs, rfl, h1, h2⟩ := dp_tup h
  exact ⟨a, xs, rfl, .inr h1, fun l hl => q _ _ (Ex.new hl) (.lst (SqL.of upd_same) (dpa_ex (Ex.new hl) h2))⟩
/-- all of bools -/
theorem rc_all {bs : List Bool} : RCD K (rAll K) H [.list (bs.map .bool)] (.bool (bs.all id)) := fun vs H1 g dv Q q => by
  obtain ⟨v, rfl, h⟩ := dpa1 dv
  obtain ⟨a, xs, rfl, h1, h2⟩ := dp_lst h
  rw [dpa_bools h2] at h1
  exact ⟨a, bs, rfl, h1, q _ H1 (Ex.refl H1) (.bl _)⟩
theorem rc_sum {ns : List Int} : RCD K (rSum K) H [.list (ns.map .int)] (.int ns.sum) := fun vs H1 g dv Q q => by
  obtain ⟨v, rfl, h⟩ := dpa1 dv
  obtain ⟨a, xs, rfl, h1, h2⟩ := dp_lst h
  rw [dpa_ints h2] at h1
  exact ⟨a, ns, rfl, h1, q _ H1 (Ex.refl H1) (.int _)⟩
theorem rc_min {ns : List Int} {m : Int} (hm : m ∈ ns) (hl : ∀ y ∈ ns, m ≤ y) : RCD K (rMin K) H [.list (ns.map .int)] (.int m) := fun vs H1 g dv Q q => by
  obtain ⟨v, rfl, h⟩ := dpa1 dv
  obtain ⟨a, xs, rfl, h1, h2⟩ := dp_lst h
  rw [dpa_ints h2] at h1
  refine ⟨a, ns, rfl, h1, List.length_pos_of_mem hm, fun m' hm' hl' => ?_⟩
  rw [show m' = m from Int.le_antisymm (hl' m hm) (hl m' hm')]
  exact q _ H1 (Ex.refl H1) (.int _)
theorem rc_min2 {i j : Int} : RCD K (fun xs H Q => ∃ i j, xs = [.int i, .int j] ∧ Q (.int (if j < i then j else i)) H) H [.int i, .int j] (.int (min i j)) := fun vs H1 g dv Q q => by
  obtain ⟨v, w, rfl, h, k⟩ := dpa2 dv
  cases dp_int h
  cases dp_int k
  refine ⟨i, j, rfl, ?_⟩
  rw [show (if j < i then j else i) = min i j by split <;> omega]
  exact q _ H1 (Ex.refl H1) (.int _)
theorem rc_max2 {i j : Int} : RCD K (fun xs H Q => ∃ i j, xs = [.int i, .int j] ∧ Q (.int (if j > i then j else i)) H) H [.int i, .int j] (.int (max i j)) := fun vs H1 g dv Q q => by
  obtain ⟨v, w, rfl, h, k⟩ := dpa2 dv
  cases dp_int h
  cases dp_int k
  refine ⟨i, j, rfl, ?_⟩
  rw [show (if j > i then j else i) = max i j by split <;> omega]
  exact q _ H1 (Ex.refl H1) (.int _)
theorem rc_abs {i : Int} : RCD K (fun xs H Q => ∃ i, xs = [.int i] ∧ Q (.int (if i < 0 then -i else i)) H) H [.int i] (.int i.natAbs) := fun vs H1 g dv Q q => by
  obtain ⟨v, rfl, h⟩ := dpa1 dv
  cases dp_int h
  refine ⟨i, rfl, ?_⟩
  rw [show (if i < 0 then -i else i) = (i.natAbs : Int) by split <;> omega]
  exact q _ H1 (Ex.refl H1) (.int _)
theorem rc_int1 {i : Int} : RCD K (fun xs H Q => (∃ i, xs = [.int i] ∧ Q (.int i) H) ∨ ∃ k, xs = [.bl k] ∧ Q (.int (if k then 1 else 0)) H) H [.int i] (.int i) := fun vs H1 g dv Q q => by
  obtain ⟨v, rfl, h⟩ := dpa1 dv
  cases dp_int h
  exact .inl ⟨i, rfl, q _ H1 (Ex.refl H1) (.int _)⟩
/-- sorted of ints, of any number -/
theorem rc_sortI {ns ns' : List Int} (h : ∀ l : List Int, l.Perm ns → l.Pairwise (· ≤ ·) → l = ns') (hz : ns.length < 64) : RCD K (rSorted K) H [.list (ns.map .int)] (.list (ns'.map .int)) := fun vs H1 g dv Q q => by
  obtain ⟨v, rfl, hh⟩ := dpa1 dv
  obtain ⟨a, xs, rfl, h1, h2⟩ := dp_lst hh
  rw [dpa_ints h2] at h1
  refine ⟨a, ns, rfl, h1, hz, fun l p hp hs hn => ?_⟩
  rw [h l hp hs]
  exact q _ _ (Ex.new hn) (.lst (SqL.of upd_same) (ints_dpa _))
/-! ### kinds of values -/
def tyD : PyData → String
  | .none => "NoneType"
  | .bool _ => "bool"
  | .int _ => "int"
  | .str _ => "str"
  | .list _ => "list"
  | .tuple _ => "tuple"
  | .dict _ => "dict"
theorem tyx {x : V} {d : PyData} (h : Dp K H x d) : TyX K H x (.type (tyD d)) := by
  cases h with
  | non => exact .base .non
  | bl b => exact .base (.bl b)
  | int i => exact .base (.int i)
  | str s => exact .base (.str s)
  | lst h1 h2 =>
    rcases h1 with (h1 | ⟨o, h1⟩) | ⟨_, _, _, h1, hc, _⟩
    · exact .base (.lst h1)
    · exact .base (.frz h1)
    · exact .kList h1 hc
  | tup h1 h2 =>
    rcases h1 with (h1 | ⟨o, h1⟩) | ⟨_, _, _, h1, hc, _⟩
    · exact .base (.tup h1)
    · exact .fTuple h1
    · exact .kTuple h1 hc
theorem evd_isi {T : String} {b : Bool} (h : EvD K ta σ H d) (hb : kitB (tyD d) T = some b) : EvD K (tCB (rIsi K) (tCons ta (tCons (tC (.ty T)) tNil))) σ H (.bool b) := fun H1 g Q q =>
  h H1 g _ fun v H2 g2 dv => ⟨v, .ty T, .type (tyD d), .type T, b, rfl, .ty T, tyx dv, kit_ty hb, q _ H2 g2 (.bl b)⟩
/-- isinstance(x, (A, B)) -/
theorem evd_isi2 {S T : String} {a b : Bool} (h : EvD K ta σ H d) (ha : kitB (tyD d) S = some a) (hb : kitB (tyD d) T = some b) :
    EvD K (tCB (rIsiT K) (tCons ta (tCons (tTup (tCons (tC (.ty S)) (tCons (tC (.ty T)) tNil))) tNil))) σ H (.bool (a || b)) := fun H1 g Q q =>
  h H1 g _ fun v H2 g2 dv => ⟨by show 2 ≤ sizeLine; decide, fun p np => ⟨v, p, [.ty S, .ty T], .type (tyD d), [.type S, .type T], a || b, rfl, upd_same, .cons (.ty S) (.cons (.ty T) .nil), tyx (dp_ex (Ex.new np) dv),
    kitAny_cons (b := a) (r := a || b) (kit_ty ha) (fun z => kitAny_cons (b := b) (kit_ty hb) (fun z2 => by subst z; subst z2; rfl) (fun z2 => by subst z2; cases a <;> rfl)) (fun z => by subst z; rfl), q _ _ (g2.trans (Ex.new np)) (.bl _)⟩⟩
/-! ### slices -/
theorem eo_none : Evl.EvO tNoPart σ H none := Evl.eo_none
theorem eo_some {i : Int} (h : EvD K te σ H (.int i)) : Evl.EvO (tPart te) σ H (some i) := fun H1 g _ q => h H1 g _ fun v H2 g2 dv => ⟨i, dp_int dv, q H2 g2⟩
def cutD (ds : List PyData) (lo hi : Option Int) : List PyData := (ds.drop (HT.sIx ds.length 0 lo)).take (HT.sIx ds.length ds.length hi - HT.sIx ds.length 0 lo)
theorem dpa_cut {vs : List V} (h : DpAll K H vs ds) (lo hi : Option Int) : DpAll K H (cutV vs lo hi) (cutD ds lo hi) := by
  unfold cutV cutD
  rw [dpa_len h]
  exact dpa_take _ (dpa_drop _ h)
theorem evd_slL {tl th : TO} {lo hi : Option Int} {r' : V → Option Int → Option Int → Hp → VK → Prop} (h : EvD K te σ H (.list ds)) (h1 : Evl.EvO tl σ H lo) (h2 : Evl.EvO th σ H hi) : EvD K (tSl (fun x lo hi H Q => rSlL K x lo hi H Q ∨ r' x lo hi H Q) te tl th) σ H (.list (cutD ds lo hi)) := fun H1 g Q q =>
  h H1 g _ fun v H2 g2 dv => h1 H2 (g.trans g2) _ fun H3 g3 => h2 H3 (g.trans (g2.trans g3)) _ fun H4 g4 => by
    obtain ⟨a, xs, rfl, k1, k2⟩ := dp_lst (dp_ex (g3.trans g4) dv)
    exact .inl ⟨a, xs, rfl, k1, fun p np => q _ _ (g2.trans (g3.trans (g4.trans (Ex.new np)))) (.lst (SqL.of upd_same) (dpa_ex (Ex.new np) (dpa_cut k2 lo hi)))⟩
theorem evd_slT {tl th : TO} {lo hi : Option Int} {r' : V → Option Int → Option Int → Hp → VK → Prop} (h : EvD K te σ H (.tuple ds)) (h1 : Evl.EvO tl σ H lo) (h2 : Evl.EvO th σ H hi) : EvD K (tSl (fun x lo hi H Q => r' x lo hi H Q ∨ rSlA K x lo hi H Q) te tl th) σ H (.tuple (cutD ds lo hi)) := fun H1 g Q q =>
  h H1 g _ fun v H2 g2 dv => h1 H2 (g.trans g2) _ fun H3 g3 => h2 H3 (g.trans (g2.trans g3)) _ fun H4 g4 => by
    obtain ⟨a, xs, rfl, k1, k2⟩ := dp_tup (dp_ex (g3.trans g4) dv)
    refine .inr ⟨a, xs, rfl, k1, fun z => ?_, fun _ p np => q _ _ (g2.trans (g3.trans (g4.trans (Ex.new np)))) (.tup (SqT.of upd_same) (dpa_ex (Ex.new np) (dpa_cut k2 lo hi)))⟩
    have e : cutD ds lo hi = ds := by
      unfold cutD
      rw [dpa_len k2] at z
      rw [z.1, z.2, List.drop_zero, Nat.sub_zero, List.take_length]
    exact q _ H4 (g2.trans (g3.trans g4)) (by rw [e]; exact .tup k1 k2)
/-- in a tuple, a list of flat things -/
def flatD : PyData → Bool
  | .none => true
  | .bool _ => true
  | .int _ => true
  | .str _ => true
  | _ => false
theorem flat_dp {v : V} (h : Dp K H v d) (f : flatD d = true) : flatV v = true := by
  cases h <;> first | rfl | (simp [flatD] at f)
theorem flats_dp : ∀ {vs : List V} {ds : List PyData}, DpAll K H vs ds → ds.all flatD = true → vs.all flatV = true
  | _, _, .nil, _ => rfl
  | _, _, .cons h hs, f => by
    rw [List.all_cons, Bool.and_eq_true] at f ⊢
    exact ⟨flat_dp h f.1, flats_dp hs f.2⟩
theorem eqv_dp {v w : V} {d e : PyData} (h : Dp K H v d) (k : Dp K H w e) (f : flatD d = true) (f2 : flatD e = true) : eqV v w = PyData.eqv d e := by
  cases h <;> cases k <;> first | rfl | (simp [flatD] at f f2; done) | (simp [eqV, PyData.eqv]; done)
theorem inv_dp {v : V} {d : PyData} (h : Dp K H v d) (f : flatD d = true) : ∀ {vs : List V} {ds : List PyData}, DpAll K H vs ds → ds.all flatD = true → inV v vs = ds.any (fun z => PyData.eqv z d)
  | _, _, .nil, _ => rfl
  | _, _, .cons k ks, g => by
    rw [List.all_cons, Bool.and_eq_true] at g
    have := inv_dp h f ks g.2
    unfold inV at this ⊢
    rw [List.any_cons, List.any_cons, this, eqv_dp k h g.1 f]
theorem rd_inF {neg : Bool} (hs : (e = .tuple ds) ∨ e = .list ds) (f1 : flatD d = true) (f2 : ds.all flatD = true) : RD K (rIn K neg) H d e (.bool (if neg then !(ds.any fun z => PyData.eqv z d) else ds.any fun z => PyData.eqv z d)) := fun x y H1 _ dx dy Q q => by
  rcases hs with rfl | rfl
  · obtain ⟨a, xs, rfl, k1, k2⟩ := dp_tup dy
    exact ⟨a, xs, rfl, .inr k1, flat_dp dx f1, flats_dp k2 f2, by rw [inv_dp dx f1 k2 f2]; exact q _ H1 (Ex.refl H1) (.bl _)⟩
  · obtain ⟨a, xs, rfl, k1, k2⟩ := dp_lst dy
    exact ⟨a, xs, rfl, .inl k1, flat_dp dx f1, flats_dp k2 f2, by rw [inv_dp dx f1 k2 f2]; exact q _ H1 (Ex.refl H1) (.bl _)⟩
end
/-! ### a pure def's promise: from data to a datum -/
def spP (K : PySem.W.Frag) (R : List PyData → PyData → Prop) : Sp := fun vs H Q _ => ∃ ds d, DpAll K H vs ds ∧ R ds d ∧ ∀ v H', Ex H H' → Dp K H' v d → Q v H'
/-- a def of the module, as callers see it -/
structure Df (P : Program) (w : World) (K : PySem.W.Frag) (mg : Str → Option Value) (base : Heap) (x : Str) (k : Nat) (ps : List Str) (sp : Sp) : Prop where
  ok : ∃ (f : Addr) (fd : FuncData), FnOk P w K mg base CX0 k f fd ps sp ∧ mg x = some (.ref f) ∧ PySem.W.keepIn K (.ref f) = true ∧ Binds K fd ps []
section
variable {X : Cx} {x : Str} {k : Nat} {ps : List Str} {sp : Sp} {e : Expr} {es : List Expr} {t : TA} {p pos : Pos}
theorem pe_df (D : Df X.prog X.w X.K X.mg X.base x k ps sp) (hr : Room k X.A) (hg : Gl X x) (ha : PA X (e :: es) t) (hdb : (x == ("__debug__" : Str)) = false := by decide) (he : starEach (e :: es) X.env = (false, eval e X.env) :: starEach es X.env := by rfl)
    (hpl : (backTo pos (starEach es X.env)).any (·.1) = false := by rfl) : PE X (.Call (.Name x p) (e :: es) [] pos) (tCall sp [] E0 t) := by
  obtain ⟨f, fd, F, hm, hk, hb⟩ := D.ok
  exact pe_call F hr hg hm hk hb .nil pass0 ha hdb he hpl
end
section
variable {K : PySem.W.Frag} {σ : L2.St} {H H' : Hp} {ta : TA} {te : TE} {t u : TT} {d e : PyData} {ds es : List PyData} {R : List PyData → PyData → Prop} {E : XK}
theorem evd_call (h : EvDA K ta σ H ds) (hR : R ds d) : EvD K (tCall (spP K R) [] E ta) σ H d := fun H1 g Q q =>
  h H1 g _ fun vs H2 g2 dvs => ⟨ds, d, by rw [List.append_nil]; exact dvs, hR, fun v H3 g3 dv => q v H3 (g2.trans g3) dv⟩
end
/-! ### statements -/
section
variable {K : PySem.W.Frag} {σ : L2.St} {H H' : Hp} {ta : TA} {te tr : TE} {t u : TT} {d e : PyData} {ds es : List PyData} {D : Ends} {tu tw tz : TS} {g : TG}
variable (K) in
theorem q_set {i : Nat} (h : EvD K te σ H d) (k : ∀ v H1, Ex H H1 → Dp K H1 v d → tz D (σ.set i (some v)) H1) : tSeq (tAsg te (gName i)) tz D σ H := h H (Ex.refl H) _ k
variable (K) in
theorem s_set {i : Nat} (h : EvD K te σ H d) (k : ∀ v H1, Ex H H1 → Dp K H1 v d → D.nx (σ.set i (some v)) H1) : tAsg te (gName i) D σ H := h H (Ex.refl H) _ k
variable (K) in
theorem q_asg {G : TG} (h : EvD K te σ H d) (k : ∀ v H1, Ex H H1 → Dp K H1 v d → G v σ H1 (tz D)) : tSeq (tAsg te G) tz D σ H := h H (Ex.refl H) _ k
variable (K) in
theorem s_asg {G : TG} (h : EvD K te σ H d) (k : ∀ v H1, Ex H H1 → Dp K H1 v d → G v σ H1 D.nx) : tAsg te G D σ H := h H (Ex.refl H) _ k
variable (K) in
theorem s_ret (h : EvD K te σ H d) (k : ∀ v H1, Ex H H1 → Dp K H1 v d → D.rt v H1) : tRet te D σ H := h H (Ex.refl H) _ k
variable (K) in
theorem q_drop (h : EvD K te σ H d) (k : ∀ H1, Ex H H1 → tz D σ H1) : tSeq (tDrop te) tz D σ H := h H (Ex.refl H) _ fun _ H1 g _ => k H1 g
theorem s_if {b : Bool} (h : EvT t σ H b) (h1 : b = true → ∀ H1, Ex H H1 → tu D σ H1) (h2 : b = false → ∀ H1, Ex H H1 → tw D σ H1) : tIfS t tu tw D σ H := Evl.s_if h h1 h2
theorem q_if {b : Bool} (h : EvT t σ H b) (h1 : b = true → ∀ H1, Ex H H1 → tu { D with nx := tz D } σ H1) (h2 : b = false → ∀ H1, Ex H H1 → tw { D with nx := tz D } σ H1) : tSeq (tIfS t tu tw) tz D σ H := Evl.q_if h h1 h2
/-- an if without else that is not taken, that is taken -/
theorem q_no (h : EvT t σ H false) (k : ∀ H1, Ex H H1 → tz D σ H1) : tSeq (tIfS t tu tNext) tz D σ H := Evl.q_when h (fun z => nomatch z) fun _ => k
theorem q_when {b : Bool} (h : EvT t σ H b) (h1 : b = true → ∀ H1, Ex H H1 → tu { D with nx := tz D } σ H1) (h2 : b = false → ∀ H1, Ex H H1 → tz D σ H1) : tSeq (tIfS t tu tNext) tz D σ H := Evl.q_when h h1 h2
theorem s_when {b : Bool} (h : EvT t σ H b) (h1 : b = true → ∀ H1, Ex H H1 → tu D σ H1) (h2 : b = false → ∀ H1, Ex H H1 → D.nx σ H1) : tIfS t tu tNext D σ H := Evl.s_when h h1 h2
/-! two names at once -/
variable (K) in
theorem q_par {i j : Nat} (h : EvDA K ta σ H [d, e]) (k : ∀ v w H1, Ex H H1 → Dp K H1 v d → Dp K H1 w e → tz D ((σ.set i (some v)).set j (some w)) H1) : tSeq (tPar i j ta) tz D σ H := h H (Ex.refl H) _ fun vs H1 g dv => by
  obtain ⟨v, w, rfl, h1, h2⟩ := dpa2 dv
  exact ⟨v, w, rfl, k v w H1 g h1 h2⟩
variable (K) in
theorem s_par {i j : Nat} (h : EvDA K ta σ H [d, e]) (k : ∀ v w H1, Ex H H1 → Dp K H1 v d → Dp K H1 w e → D.nx ((σ.set i (some v)).set j (some w)) H1) : tPar i j ta D σ H := h H (Ex.refl H) _ fun vs H1 g dv => by
  obtain ⟨v, w, rfl, h1, h2⟩ := dpa2 dv
  exact ⟨v, w, rfl, k v w H1 g h1 h2⟩
/-! x += e of ints -/
variable (K) in
theorem q_aug {i : Nat} {a b : Int} (hx : σ[i]? = some (some (.int a))) (h : EvD K te σ H (.int b)) (k : ∀ H1, Ex H H1 → tz D (σ.set i (some (.int (a + b)))) H1) : tSeq (tAug i te (ipI fun i j => i + j)) tz D σ H :=
  ⟨_, hx, h H (Ex.refl H) _ fun v H1 g dv => ⟨a, b, rfl, dp_int dv, k H1 g⟩⟩
variable (K) in
theorem s_aug {i : Nat} {a b : Int} (hx : σ[i]? = some (some (.int a))) (h : EvD K te σ H (.int b)) (k : ∀ H1, Ex H H1 → D.nx (σ.set i (some (.int (a + b)))) H1) : tAug i te (ipI fun i j => i + j) D σ H :=
  ⟨_, hx, h H (Ex.refl H) _ fun v H1 g dv => ⟨a, b, rfl, dp_int dv, k H1 g⟩⟩
/-- a tuple's items to several targets -/
theorem g_tup {n : Nat} {gs : TGs} {v : V} {Q : L2.St → Hp → Prop} (h : Dp K H v (.tuple ds)) (hn : ds.length = n) (k : ∀ xs, DpAll K H xs ds → gs xs σ H Q) : gTup K n gs v σ H Q := by
  obtain ⟨a, xs, rfl, h1, h2⟩ := dp_tup h
  exact ⟨a, xs, rfl, h1, by rw [dpa_len h2, hn], k xs h2⟩
theorem g_two {i j : Nat} {v : V} {Q : L2.St → Hp → Prop} (h : Dp K H v (.tuple [d, e])) (k : ∀ x y, Dp K H x d → Dp K H y e → Q ((σ.set i (some x)).set j (some y)) H) : gTup K 2 (gCons (gName i) (gCons (gName j) gNil)) v σ H Q :=
  g_tup h rfl fun xs hx => by
    obtain ⟨x, y, rfl, h1, h2⟩ := dpa2 hx
    exact ⟨x, [y], rfl, y, [], rfl, rfl, k x y h1 h2⟩
theorem g_three {i j l : Nat} {f : PyData} {v : V} {Q : L2.St → Hp → Prop} (h : Dp K H v (.tuple [d, e, f])) (k : ∀ x y z, Dp K H x d → Dp K H y e → Dp K H z f → Q (((σ.set i (some x)).set j (some y)).set l (some z)) H) : gTup K 3 (gCons (gName i) (gCons (gName j) (gCons (gName l) gNil))) v σ H Q :=
  g_tup h rfl fun xs hx => by
    obtain ⟨x, y, z, rfl, h1, h2, h3⟩ := dpa3 hx
    exact ⟨x, [y, z], rfl, y, [z], rfl, z, [], rfl, rfl, k x y z h1 h2 h3⟩
theorem g_four {i j l m : Nat} {f f2 : PyData} {v : V} {Q : L2.St → Hp → Prop} (h : Dp K H v (.tuple [d, e, f, f2])) (k : ∀ x y z z2, Dp K H x d → Dp K H y e → Dp K H z f → Dp K H z2 f2 → Q ((((σ.set i (some x)).set j (some y)).set l (some z)).set m (some z2)) H) : gTup K 4 (gCons (gName i) (gCons (gName j) (gCons (gName l) (gCons (gName m) gNil)))) v σ H Q :=
  g_tup h rfl fun xs hx => by
    cases hx with | cons h1 hx =>
      obtain ⟨y, z, z2, rfl, h2, h3, h4⟩ := dpa3 hx
      exact ⟨_, _, rfl, y, _, rfl, z, _, rfl, z2, [], rfl, rfl, k _ y z z2 h1 h2 h3 h4⟩
/-! for over a list or a tuple of data -/
def iSeq (K : PySem.W.Frag) (te : TE) : TI := fun σ H R => iList K te σ H R ∨ iTup K te σ H R
theorem pi_seq {X : Cx} {tg l : Expr} {te : TE} (h : PE X l te) : PI X tg l (iSeq X.K te) := ⟨fun pins s σ H R I hw => hw.elim ((pi_list h).run pins s σ H R I) ((pi_tup h).run pins s σ H R I)⟩
def Seq (b : Bool) (ds : List PyData) : PyData := if b then .list ds else .tuple ds
variable (K) in
theorem s_for {b : Bool} (h : EvD K te σ H (Seq b ds)) (k : ∀ v H1, Ex H H1 → Dp K H1 v (Seq b ds) → ∃ Pv : Nat → L2.St → Hp → Prop, Pv 0 σ H1 ∧ (∀ i σ' H', Pv i σ' H' → Dp K H' v (Seq b ds)) ∧
    (∀ i d x σ' H', ds[i]? = some d → Dp K H' x d → Pv i σ' H' → g x σ' H' fun σ2 H2 => tu { D with nx := Pv (i + 1), ct := Pv (i + 1), bk := D.nx } σ2 H2) ∧ ∀ σ' H', Pv ds.length σ' H' → D.nx σ' H') : tFor (iSeq K te) g tu D σ H := by
  cases b with
  | true =>
    refine .inl (h H (Ex.refl H) _ fun v H1 e dv => ?_)
    obtain ⟨Pv, h0, hk, ht, hd⟩ := k v H1 e dv
    obtain ⟨a, xs, rfl, h1, h2⟩ := dp_lst dv
    refine ⟨a, rfl, ⟨xs, h1⟩, ?_⟩
    refine ⟨fun i m σ' H' => m = ds.length - i ∧ i ≤ ds.length ∧ Pv i σ' H', ⟨ds.length, by simp, Nat.zero_le _, h0⟩, ?_⟩
    rintro i m σ' H' ⟨rfl, hi, p⟩
    obtain ⟨a', ys, ea, k1, k2⟩ := dp_lst (hk i σ' H' p)
    cases ea
    have hl := dpa_len k2
    by_cases hlt : i < ds.length
    · obtain ⟨v, hv, dv⟩ := dpa_get k2 (List.getElem?_eq_getElem hlt)
      refine .inr ⟨⟨ys, v, k1, hv⟩, Pv (i + 1), fun σ2 H2 p' => ⟨ds.length - (i + 1), by omega, rfl, hlt, p'⟩, fun x H2 yl => ?_⟩
      obtain ⟨e2, yl⟩ := yl
      subst e2
      have e3 := yl ys k1
      rw [hv] at e3
      cases e3
      exact ht i _ _ _ _ (List.getElem?_eq_getElem hlt) dv p
    · have e : i = ds.length := by omega
      subst e
      exact .inl ⟨⟨ys, k1, by omega⟩, hd σ' H' p⟩
  | false =>
    refine .inr (h H (Ex.refl H) _ fun v H1 e dv => ?_)
    obtain ⟨Pv, h0, hk, ht, hd⟩ := k v H1 e dv
    obtain ⟨a, xs, rfl, h1, h2⟩ := dp_tup dv
    refine ⟨a, rfl, ⟨xs, h1⟩, ?_⟩
    refine ⟨fun i m σ' H' => m = ds.length - i ∧ i ≤ ds.length ∧ Pv i σ' H', ⟨ds.length, by simp, Nat.zero_le _, h0⟩, ?_⟩
    rintro i m σ' H' ⟨rfl, hi, p⟩
    obtain ⟨a', ys, ea, k1, k2⟩ := dp_tup (hk i σ' H' p)
    cases ea
    have hl := dpa_len k2
    by_cases hlt : i < ds.length
    · obtain ⟨v, hv, dv⟩ := dpa_get k2 (List.getElem?_eq_getElem hlt)
      refine .inr ⟨⟨ys, v, k1, hv⟩, Pv (i + 1), fun σ2 H2 p' => ⟨ds.length - (i + 1), by omega, rfl, hlt, p'⟩, fun x H2 yl => ?_⟩
      obtain ⟨e2, yl⟩ := yl
      subst e2
      have e3 := yl ys k1
      rw [hv] at e3
      cases e3
      exact ht i _ _ _ _ (List.getElem?_eq_getElem hlt) dv p
    · have e : i = ds.length := by omega
      subst e
      exact .inl ⟨⟨ys, k1, by omega⟩, hd σ' H' p⟩
variable (K) in
theorem q_for {b : Bool} (h : EvD K te σ H (Seq b ds)) (k : ∀ v H1, Ex H H1 → Dp K H1 v (Seq b ds) → ∃ Pv : Nat → L2.St → Hp → Prop, Pv 0 σ H1 ∧ (∀ i σ' H', Pv i σ' H' → Dp K H' v (Seq b ds)) ∧
    (∀ i d x σ' H', ds[i]? = some d → Dp K H' x d → Pv i σ' H' → g x σ' H' fun σ2 H2 => tu { D with nx := Pv (i + 1), ct := Pv (i + 1), bk := tz D } σ2 H2) ∧ ∀ σ' H', Pv ds.length σ' H' → tz D σ' H') : tSeq (tFor (iSeq K te) g tu) tz D σ H :=
  s_for (D := { D with nx := tz D }) K h k
/-- while, by an invariant with its measure -/
theorem s_while (W : Nat → L2.St → Hp → Prop) (m0 : Nat) (h0 : W m0 σ H) (hs : ∀ m σ' H', W m σ' H' → ∃ b, EvT t σ' H' b ∧ (b = true → ∀ H1, Ex H' H1 → tu { D with nx := fun σ2 H2 => ∃ m', m' < m ∧ W m' σ2 H2, ct := fun σ2 H2 => ∃ m', m' < m ∧ W m' σ2 H2, bk := D.nx } σ' H1) ∧
    (b = false → ∀ H1, Ex H' H1 → D.nx σ' H1)) : tWhile t tu D σ H := by
  refine ⟨W, ⟨m0, h0⟩, fun m σ' H' hw => ?_⟩
  obtain ⟨b, hb, h1, h2⟩ := hs m σ' H' hw
  refine hb H' (Ex.refl H') _ fun H1 e => ?_
  cases b with
  | true =>
    rw [if_pos rfl]
    exact ⟨fun σ2 H2 => ∃ m', m' < m ∧ W m' σ2 H2, fun _ _ q => q, h1 rfl H1 e⟩
  | false =>
    rw [if_neg Bool.false_ne_true]
    exact h2 rfl H1 e
theorem q_while (W : Nat → L2.St → Hp → Prop) (m0 : Nat) (h0 : W m0 σ H) (hs : ∀ m σ' H', W m σ' H' → ∃ b, EvT t σ' H' b ∧ (b = true → ∀ H1, Ex H' H1 → tu { D with nx := fun σ2 H2 => ∃ m', m' < m ∧ W m' σ2 H2, ct := fun σ2 H2 => ∃ m', m' < m ∧ W m' σ2 H2, bk := tz D } σ' H1) ∧
    (b = false → ∀ H1, Ex H' H1 → tz D σ' H1)) : tSeq (tWhile t tu) tz D σ H := s_while (D := { D with nx := tz D }) W m0 h0 hs
end
/-! ### list + list, whatever holds them -/
def rCatL (K : PySem.W.Frag) : R2 := fun x y H Q => ∃ a b xs ys, x = .ref a ∧ y = .ref b ∧ SqL K H a xs ∧ SqL K H b ys ∧ xs.length + ys.length ≤ sizeLine ∧ ∀ p, H p = none → Q (.ref p) (upd H p (.lst (xs ++ ys)))
theorem op_catL {X : Cx} : OpR X (binaryOp .Add) (rCatL X.K) := by
  intro pins s σ H x y v u Q I rx ry h
  obtain ⟨a, b, xs, ys, rfl, rfl, ha, hb, hz, q⟩ := h
  cases rx
  cases ry
  obtain ⟨its, r, p1, _⟩ := I.list ha
  obtain ⟨its2, r2, p2, _⟩ := I.list hb
  have hl := r.length
  have hl2 := r2.length
  obtain ⟨⟨cls, dd, data, sl⟩, n, ho, hc, hdn, hd⟩ := id p1
  obtain ⟨⟨cls2, dd2, data2, sl2⟩, n2, ho2, hc2, hdn2, hd2⟩ := id p2
  simp only at hc hd hc2 hd2
  subst hc hd hc2 hd2
  have e : its.toArray ++ its2.toArray = (its ++ its2).toArray := by simp
  refine concat_meets ⟨_, ho, rfl⟩ ⟨_, ho2, rfl⟩ noFill_list_add seq_list_add PySem.F.slot_list_add PySem.F.entry_list_add (PySem.F.args_list_add_2 _ _) (list_addW a b its.toArray its2.toArray n n2 dd dd2 sl sl2 (by rw [List.size_toArray, List.size_toArray]; omega)) ⟨ho, ho2, ?_⟩
  rw [e]
  exact ⟨.ref _, _, I.lnew (t' := s.toks) (r.append r2) (by rw [List.length_append]; omega), rfl, q _ I.fresh⟩
theorem rd_catL' {K : PySem.W.Frag} {H : Hp} {ds es : List PyData} (hl : ds.length + es.length ≤ 1000000) : RD K (rCatL K) H (.list ds) (.list es) (.list (ds ++ es)) := fun x y H1 _ dx dy Q q => by
  obtain ⟨a, xs, rfl, h1, h2⟩ := dp_lst dx
  obtain ⟨b, ys, rfl, k1, k2⟩ := dp_lst dy
  refine ⟨a, b, xs, ys, rfl, rfl, h1, k1, by rw [dpa_len h2, dpa_len k2, sizeLine_eq]; omega, fun p np => q _ _ (Ex.new np) (.lst (SqL.of upd_same) (dpa_ex (Ex.new np) (dpa_app h2 k2)))⟩
end Bw
end
section
set_option Elab.async false
set_option linter.all false
set_option maxRecDepth 100000
namespace Bw
open PySem PySem.Spec PyProof.Rows L2
def topS (i : Nat) : Stmt := PySem.Challenge.pw_bodyforbody_k45_whole_agreements_handed.main.body.getD i (.Pass ⟨0, 0, 0, 0⟩)
/-- the built-ins' names are the built-ins; the module's two constants -/
structure Nm (mg : Str → Option Value) : Prop where
  isinstance : mg "isinstance" = none
  len : mg "len" = none
  all : mg "all" = none
  sum : mg "sum" = none
  min : mg "min" = none
  max : mg "max" = none
  sorted : mg "sorted" = none
  set : mg "set" = none
  range : mg "range" = none
  enumerate : mg "enumerate" = none
  tuple : mg "tuple" = none
  list : mg "list" = none
  int : mg "int" = none
  bool : mg "bool" = none
  abs : mg "abs" = none
  repr : mg "repr" = none
  mg_MOST : ∃ t, mg "MOST" = some (.int 60 t)
  mg_ACCORDS : ∃ t, mg "ACCORDS" = some (.int 20 t)
section
variable {X : Cx}
def rPlus (K : PySem.W.Frag) : R2 := fun x y H Q => (rI0 fun i j => .int (i + j)) x y H Q ∨ (rCatL K x y H Q ∨ rCatA K x y H Q)
theorem op_plus : OpR X (binaryOp .Add) (rPlus X.K) := OpR.or op_add (OpR.or op_catL op_catA)
theorem ix_K {K : PySem.W.Frag} (h : X.K = K) : IxR X (rIx K) := h ▸ ix_seq
theorem op_plusK {K : PySem.W.Frag} (h : X.K = K) : OpR X (binaryOp .Add) (rPlus K) := h ▸ op_plus
theorem sl_any : SlR X (fun x lo hi H Q => rSlL X.K x lo hi H Q ∨ rSlA X.K x lo hi H Q) := SlR.or sl_list sl_tupA
end
section
variable {X : Cx} {K : PySem.W.Frag}
theorem pg_tupK {es : List Expr} {k : Nat} {t : TGs} {n : Nat} {pos : Pos} (h : X.K = K) (hc : X.calm = true) (ht : PGs X es t)
    (hn : (assignEach es X.env).length = n := by rfl) (hst : (assignEach es X.env).findIdx? (·.1) = none := by rfl) : PG X (.Tuple es k pos) (gTup K n t) := h ▸ pg_tup hc ht hn hst
theorem pi_seqK {tg l : Expr} {te : TE} (hk : X.K = K) (h : PE X l te) : PI X tg l (iSeq K te) := hk ▸ pi_seq h
theorem pa_starK {e : Expr} {es : List Expr} {p : Pos} {te : TE} {t : TA} (h : X.K = K) (he : PE X e te) (hr : PA X es t) (hs : starEach (.Starred e p :: es) X.env = (true, eval e X.env) :: starEach es X.env := by rfl) : PA X (.Starred e p :: es) (StX.tStar K te t) := h ▸ StX.pa_star he hr hs
theorem call_lenK (h : X.K = K) : CallR X (.builtin "len") (fun xs H Q => ∃ p ys, xs = [.ref p] ∧ (SqL K H p ys ∨ SqT K H p ys) ∧ Q (.int ys.length) H) := h ▸ call_len_seq
theorem sl_K (h : X.K = K) : SlR X (fun x lo hi H Q => rSlL K x lo hi H Q ∨ rSlA K x lo hi H Q) := h ▸ sl_any
theorem op_eqK (hu : X.A.units + 64 < cLine) (h : X.K = K) : OpR X (compareOp .Eq) (rEqD K) := h ▸ op_eqD hu
theorem op_neK (hu : X.A.units + 64 < cLine) (h : X.K = K) : OpR X (compareOp .NotEq) (rNeD K) := h ▸ op_neD hu
theorem op_inK (h : X.K = K) : OpR X (compareOp .In) (rIn K false) := h ▸ op_in_seq
theorem op_notInK (h : X.K = K) : OpR X (compareOp .NotIn) (rIn K true) := h ▸ op_notIn_seq
end
section
variable {K : PySem.W.Frag} {H : Hp} {d e f : PyData} {ds es : List PyData} {i j : Int}
theorem rd_plus : RD K (rPlus K) H (.int i) (.int j) (.int (i + j)) := rd_orL (rd_I0 fun _ => .int _)
theorem rd_plusL (hl : ds.length + es.length ≤ 1000000) : RD K (rPlus K) H (.list ds) (.list es) (.list (ds ++ es)) := rd_orR (rd_orL (rd_catL' hl))
theorem rd_plusT (hl : ds.length + es.length ≤ 100000) : RD K (rPlus K) H (.tuple ds) (.tuple es) (.tuple (ds ++ es)) := rd_orR (rd_orR (rd_catA hl))
theorem rd_sub : RD K (rI0 fun i j => V.int (i - j)) H (.int i) (.int j) (.int (i - j)) := rd_I0 fun _ => .int _
theorem rd_lt : RD K (rI0 fun i j => V.bl (decide (i < j))) H (.int i) (.int j) (.bool (decide (i < j))) := rd_I0 fun _ => .bl _
theorem rd_le : RD K (rI0 fun i j => V.bl (decide (i ≤ j))) H (.int i) (.int j) (.bool (decide (i ≤ j))) := rd_I0 fun _ => .bl _
theorem rd_gt : RD K (rI0 fun i j => V.bl (decide (j < i))) H (.int i) (.int j) (.bool (decide (j < i))) := rd_I0 fun _ => .bl _
theorem rd_ge : RD K (rI0 fun i j => V.bl (decide (j ≤ i))) H (.int i) (.int j) (.bool (decide (j ≤ i))) := rd_I0 fun _ => .bl _
end
section
variable {K : PySem.W.Frag} {σ : L2.St} {H : Hp} {d e f : PyData} {ds es : List PyData} {i j : Int} {b : Bool}
theorem evd_varI {n : Nat} (h : σ[n]? = some (some (.int i))) : EvD K (tVar n) σ H (.int i) := evd_var (G := H) h (.int i) (Ex.refl H)
theorem evd_varB {n : Nat} (h : σ[n]? = some (some (.bl b))) : EvD K (tVar n) σ H (.bool b) := evd_var (G := H) h (.bl b) (Ex.refl H)
theorem rd_mul (h : CMul i j) : RD K (rI CMul fun i j => V.int (i * j)) H (.int i) (.int j) (.int (i * j)) := rd_I h fun _ => .int _
theorem rd_div (h : j ≠ 0) (h2 : j.natAbs < 1073741824) : RD K (rI CDivN fun i j => V.int (i.fdiv j)) H (.int i) (.int j) (.int (i.fdiv j)) := rd_I ⟨h, h2⟩ fun _ => .int _
theorem rd_mod (h : j ≠ 0) : RD K (rI (fun _ j => j ≠ 0) fun i j => V.int (i.fmod j)) H (.int i) (.int j) (.int (i.fmod j)) := rd_I h fun _ => .int _
theorem rd_isNi : RD K (fun x y H Q => y = .non ∧ Q (.bl (decide (x = .non))) H) H (.int i) .none (.bool false) := rd_isN fun x H1 h => by rw [dp_int h]; rfl
theorem rd_isNn : RD K (fun x y H Q => y = .non ∧ Q (.bl (decide (x = .non))) H) H .none .none (.bool true) := rd_isN fun x H1 h => by rw [dp_non h]; rfl
theorem rd_isNt : RD K (fun x y H Q => y = .non ∧ Q (.bl (!decide (x = .non))) H) H (.int i) .none (.bool true) := rd_notN fun x H1 h => by rw [dp_int h]; rfl
theorem rd_notNn : RD K (fun x y H Q => y = .non ∧ Q (.bl (!decide (x = .non))) H) H .none .none (.bool false) := rd_notN fun x H1 h => by rw [dp_non h]; rfl
theorem fmodN (a b : Nat) : (a : Int).fmod b = ((a % b : Nat) : Int) := by rw [Int.fmod_eq_emod_of_nonneg _ (Int.natCast_nonneg b)]; rfl
theorem fdivN (a b : Nat) : (a : Int).fdiv b = ((a / b : Nat) : Int) := by rw [Int.fdiv_eq_ediv_of_nonneg _ (Int.natCast_nonneg b)]; rfl
theorem eqv_dec : PyData.eqv (.int i) (.int j) = decide (i = j) := by
  show (i == j) = decide (i = j)
  rw [Bool.beq_eq_decide_eq]
theorem rd_eqI : RD K (rEqD K) H (.int i) (.int j) (.bool (decide (i = j))) := fun x y H1 g dx dy Q q => rd_eqD (d := .int i) (e := .int j) rfl rfl x y H1 g dx dy Q fun v H2 g2 dv => q v H2 g2 (by rw [← eqv_dec]; exact dv)
theorem rd_neI : RD K (rNeD K) H (.int i) (.int j) (.bool (!decide (i = j))) := fun x y H1 g dx dy Q q => rd_neD (d := .int i) (e := .int j) rfl rfl x y H1 g dx dy Q fun v H2 g2 dv => q v H2 g2 (by rw [← eqv_dec]; exact dv)
theorem eqv_int : PyData.eqv (.int i) (.int j) = (i == j) := rfl
end
theorem rd_divW {K : PySem.W.Frag} {H : Hp} {i j : Int} (h : 0 < j) (h2 : j < 2 ^ 64) : RD K (rI CDivW fun i j => V.int (i / j)) H (.int i) (.int j) (.int (i / j)) := rd_I (wide_div h (b := 64) (by omega) (by decide) (by decide)) fun _ => .int _
theorem evd_neg1 {K : PySem.W.Frag} {σ : L2.St} {H : Hp} : EvD K (tUn (rU fun i => V.int (-i)) (tC (.int 1))) σ H (.int (-1)) := evd_un (i := 1) evd_int fun _ _ q => ⟨1, rfl, q⟩
theorem room1 {k : Nat} {A : Around} (r : Room k A) : A.units + 1 < cLine := by have := r.un; omega
theorem room65 {k : Nat} {A : Around} (r : Room k A) : A.units + 65 < cLine := by have := r.un; omega
/-- x in a tuple of data -/
def rInTT (K : PySem.W.Frag) : R2 := fun x y H Q => ∃ d ds, Dp K H x d ∧ Dp K H y (.tuple ds) ∧ SeqAt.shaped d = true ∧ SeqAt.shaped (.tuple ds) = true ∧ Q (.bl (ds.any fun z => PyData.eqv z d)) H
theorem op_inTT {X : Cx} {K : PySem.W.Frag} (hu : X.A.units + 65 < cLine) (hK : X.K = K) : OpR X (compareOp .In) (rInTT K) := by
  subst hK
  intro pins s σ H x y v u Q I rx ry ⟨d, ds, hd, he, sd, se, q⟩
  obtain ⟨as, r1⟩ := Dp.reads I d x v hd rx
  obtain ⟨bs, r2⟩ := Dp.reads I (.tuple ds) y u he ry
  exact SeqAt.in_tuple_reads r2 r1 (SeqAt.canLay_of_shaped se) (SeqAt.canLay_of_shaped sd) (room_in_shaped sd hu) ⟨.bl _, H, I, rfl, q⟩
theorem rd_inTT {K : PySem.W.Frag} {H : Hp} {d : PyData} {ds : List PyData} (h1 : SeqAt.shaped d = true) (h2 : SeqAt.shaped (.tuple ds) = true) : RD K (rInTT K) H d (.tuple ds) (.bool (ds.any fun z => PyData.eqv z d)) := fun x y H1 _ dx dy Q q => ⟨d, ds, dx, dy, h1, h2, q _ H1 (Ex.refl H1) (.bl _)⟩
/-! ### kinds -/
def kI : PyData → Bool
  | .int _ => true
  | .bool _ => true
  | _ => false
def kB : PyData → Bool
  | .bool _ => true
  | _ => false
def kT : PyData → Bool
  | .tuple _ => true
  | _ => false
def kL : PyData → Bool
  | .list _ => true
  | _ => false
theorem kit_int : ∀ d : PyData, kitB (tyD d) "int" = some (kI d) := fun d => by cases d <;> (dsimp only [kI, tyD]; decide +kernel)
theorem kit_bool : ∀ d : PyData, kitB (tyD d) "bool" = some (kB d) := fun d => by cases d <;> (dsimp only [kB, tyD]; decide +kernel)
theorem kit_tuple : ∀ d : PyData, kitB (tyD d) "tuple" = some (kT d) := fun d => by cases d <;> (dsimp only [kT, tyD]; decide +kernel)
theorem kit_list : ∀ d : PyData, kitB (tyD d) "list" = some (kL d) := fun d => by cases d <;> (dsimp only [kL, tyD]; decide +kernel)
section
variable {K : PySem.W.Frag} {σ : L2.St} {H : Hp} {d : PyData} {ta : TE}
theorem evd_isInt (h : EvD K ta σ H d) : EvD K (tCB (rIsi K) (tCons ta (tCons (tC (.ty "int")) tNil))) σ H (.bool (kI d)) := evd_isi h (kit_int d)
theorem evd_isBool (h : EvD K ta σ H d) : EvD K (tCB (rIsi K) (tCons ta (tCons (tC (.ty "bool")) tNil))) σ H (.bool (kB d)) := evd_isi h (kit_bool d)
theorem evd_isTuple (h : EvD K ta σ H d) : EvD K (tCB (rIsi K) (tCons ta (tCons (tC (.ty "tuple")) tNil))) σ H (.bool (kT d)) := evd_isi h (kit_tuple d)
end
/-! ### rows as data -/
def runD (p : Nat × Nat) : PyData := .tuple [.int p.1, .int p.2]
def runsD (r : List (Nat × Nat)) : PyData := .tuple (r.map runD)
def rowD (R : List (Nat × Nat) × Nat) : PyData := .tuple [runsD R.1, .int R.2]
end Bw
end
section
set_option Elab.async false
set_option linter.all false
set_option maxRecDepth 100000
namespace Bw
open PySem PySem.Spec PyProof.Rows L2
/-! ### a def of the module and its promise -/
structure Fd (K : PySem.W.Frag) (mg : Str → Option Value) (x : Str) (st : Stmt) : Prop where
  ex : ∃ (f : Addr) (fd : FuncData), Fun K x x st f fd ∧ mg x = some (.ref f)
/-- any datum that R tells may come back -/
def spA (K : PySem.W.Frag) (pre : List PyData → Prop) (R : List PyData → PyData → Prop) : Sp := fun vs H Q _ => ∃ ds, DpAll K H vs ds ∧ pre ds ∧ ∀ d v H', R ds d → Ex H H' → Dp K H' v d → Q v H'
section
variable {P : Program} {w : World} {K : PySem.W.Frag} {mg : Str → Option Value} {base : Heap} {x : Str} {st : Stmt} {N ps : List Str} {k : Nat}
theorem d_any {sp : Sp} (F : Fd K mg x st) (S : FnScope N ps (defScope st))
    (bd : ∀ (kV doc pm : Value) (an : Option Addr) (cdv ct : Value) (us : List Value), us.length = ps.length → bindArgs (PySem.W.fnOf x x (defArgs st) (defBody st) (defScope st) .none kV doc pm an cdv ct) ⟨us, []⟩ = pure (ps.zip us))
    (len : ∀ vs H Q E, sp vs H Q E → vs.length = ps.length)
    (body : ∀ (f : Addr) (cdv : Value) (A : Around) (outer : List Env) (s : Shared) (H : Hp) (vs : List V) (Q : VK) (E : XK), Room k (A.deeper (envOfC x (defScope st) s.heap.objs.size f cdv)) → sp vs H Q E →
      ∃ t, PSs (cxOf CX0 P w K mg base N x (defScope st) f cdv A outer s H E).nox (defBody st) t ∧ t { nx := fun _ H' => Q .non H', rt := Q } (start N vs) H) : Df P w K mg base x (k + 1) ps sp := by
  obtain ⟨f, fd, F, hm⟩ := F.ex
  exact ⟨f, fd, F.ok S len (fun cdv A outer s H vs Q E hr h => body f cdv A outer s H vs Q E hr h), hm, F.kp, F.binds bd⟩
theorem d_pure {R : List PyData → PyData → Prop} (F : Fd K mg x st) (S : FnScope N ps (defScope st))
    (bd : ∀ (kV doc pm : Value) (an : Option Addr) (cdv ct : Value) (us : List Value), us.length = ps.length → bindArgs (PySem.W.fnOf x x (defArgs st) (defBody st) (defScope st) .none kV doc pm an cdv ct) ⟨us, []⟩ = pure (ps.zip us))
    (len : ∀ ds d, R ds d → ds.length = ps.length)
    (body : ∀ (f : Addr) (cdv : Value) (A : Around) (outer : List Env) (s : Shared) (H : Hp) (vs : List V) (ds : List PyData) (d : PyData) (Q : VK) (E : XK), Room k (A.deeper (envOfC x (defScope st) s.heap.objs.size f cdv)) → DpAll K H vs ds → R ds d →
      (∀ v H', Ex H H' → Dp K H' v d → Q v H') →
      ∃ t, PSs (cxOf CX0 P w K mg base N x (defScope st) f cdv A outer s H E).nox (defBody st) t ∧ t { nx := fun _ H' => Q .non H', rt := Q } (start N vs) H) : Df P w K mg base x (k + 1) ps (spP K R) :=
  d_any F S bd (fun vs H Q E ⟨ds, d, h1, h2, _⟩ => (dpa_len h1).trans (len ds d h2)) fun f cdv A outer s H vs Q E hr ⟨ds, d, h1, h2, q⟩ => body f cdv A outer s H vs ds d Q E hr h1 h2 q
theorem d_all {pre : List PyData → Prop} {R : List PyData → PyData → Prop} (F : Fd K mg x st) (S : FnScope N ps (defScope st))
    (bd : ∀ (kV doc pm : Value) (an : Option Addr) (cdv ct : Value) (us : List Value), us.length = ps.length → bindArgs (PySem.W.fnOf x x (defArgs st) (defBody st) (defScope st) .none kV doc pm an cdv ct) ⟨us, []⟩ = pure (ps.zip us))
    (len : ∀ ds, pre ds → ds.length = ps.length)
    (body : ∀ (f : Addr) (cdv : Value) (A : Around) (outer : List Env) (s : Shared) (H : Hp) (vs : List V) (ds : List PyData) (Q : VK) (E : XK), Room k (A.deeper (envOfC x (defScope st) s.heap.objs.size f cdv)) → DpAll K H vs ds → pre ds →
      (∀ d v H', R ds d → Ex H H' → Dp K H' v d → Q v H') →
      ∃ t, PSs (cxOf CX0 P w K mg base N x (defScope st) f cdv A outer s H E).nox (defBody st) t ∧ t { nx := fun _ H' => Q .non H', rt := Q } (start N vs) H) : Df P w K mg base x (k + 1) ps (spA K pre R) :=
  d_any F S bd (fun vs H Q E ⟨ds, h1, h2, _⟩ => (dpa_len h1).trans (len ds h2)) fun f cdv A outer s H vs Q E hr ⟨ds, h1, h2, q⟩ => body f cdv A outer s H vs ds Q E hr h1 h2 q
end
section
variable {K : PySem.W.Frag} {σ : L2.St} {H H' : Hp} {ta : TA} {ds : List PyData} {pre : List PyData → Prop} {R : List PyData → PyData → Prop} {E : XK} {D : Ends} {tz : TS}
variable (K) in
theorem q_setA {i : Nat} (h : EvDA K ta σ H ds) (hp : pre ds) (k : ∀ d v H1, R ds d → Ex H H1 → Dp K H1 v d → tz D (σ.set i (some v)) H1) : tSeq (tAsg (tCall (spA K pre R) [] E ta) (gName i)) tz D σ H :=
  h H (Ex.refl H) _ fun vs H2 g2 dvs => ⟨ds, by rw [List.append_nil]; exact dvs, hp, fun d v H3 hR g3 dv => k d v H3 hR (g2.trans g3) dv⟩
end
/-! ### comprehensions over data -/
section
variable {K : PySem.W.Frag} {σ : L2.St} {H H' : Hp} {te tk : TE} {tt : TT} {ds : List PyData} {g : TG} {vs : List Nat}
/-- a turn: the target takes the item, the test answers b, the element is d -/
def LcTurn (K : PySem.W.Frag) (g : TG) (tt : TT) (te : TE) (vs : List Nat) (σ : L2.St) (H : Hp) (x : PyData) (b : Bool) (d : PyData) : Prop :=
  ∀ v H1, Ex H H1 → Dp K H1 v x → ∃ σ2, (∀ Q : L2.St → Hp → Prop, Q σ2 H1 → g v (wipe σ vs) H1 Q) ∧ wipe σ2 vs = wipe σ vs ∧ EvT tt σ2 H1 b ∧ (b = true → EvD K te σ2 H1 d)
theorem dp_list_new {l : Addr} {xs : List V} {G : Hp} (h : G l = some (.lst xs)) (hs : DpAll K G xs ds) : Dp K G (.ref l) (.list ds) := .lst (SqL.of h) hs
/-- over a list of things that I tells -/
theorem evd_lcI {α : Type} {b : Bool} (I : α → PyData) (ls : List α) (f : α → Bool) (el : α → PyData) (hs : EvD K tk σ H (Seq b (ls.map I))) (hz : ls.length ≤ 100000) (hn : ∀ x ∈ ls, f x = true → noL (el x) = true)
    (ht : ∀ x ∈ ls, LcTurn K g tt te vs σ H (I x) (f x) (el x)) : EvD K (tLc (iSeq K tk) g tt te vs) σ H (.list ((ls.filter f).map el)) := by
  generalize hds : ls.map I = ds at hs
  have dl : ds.length = ls.length := by rw [← hds, List.length_map]
  intro H0 e0 Q q
  -- one proof for both kinds of source
  have main : ∀ (v : V) (H1 : Hp) (D : Addr), Ex H0 H1 → Dp K H1 v (Seq b ds) → H1 D = none →
      ∃ Pv : Nat → Hp → Prop, Pv 0 (upd H1 D (.lst [])) ∧ (∀ i H', Pv i H' → Dp K H' v (Seq b ds)) ∧ (∀ H', Pv ds.length H' → Q (.ref D) H') ∧
      ∀ i x y H', ls[i]? = some x → Dp K H' y (I x) → Pv i H' → g y (wipe σ vs) H' fun σ2 H2 => wipe σ2 vs = wipe σ vs ∧ tt σ2 H2 fun b H3 =>
        if b = true then te σ2 H3 fun y H4 => ∃ acc, H4 D = some (.lst acc) ∧ acc.length < sizeLine ∧ Pv (i + 1) (upd H4 D (.lst (acc ++ [y]))) else Pv (i + 1) H3 := by
    intro v H1 D e1 dv hD
    have hexD : ∀ {G : Hp} {o : HO}, Ex H1 G → Ex H1 (upd G D o) := fun {G o} e a u h => by rw [upd_ne (ne_of_none h hD)]; exact e a u h
    refine ⟨fun i H' => Ex H1 H' ∧ ∃ acc, H' D = some (.lst acc) ∧ DpAll K H' acc (((ls.take i).filter f).map el) ∧ acc.length ≤ i, ⟨hexD (Ex.refl _), [], upd_same, by rw [List.take_zero]; exact .nil, Nat.le_refl _⟩, fun i H' ⟨e, _⟩ => dp_ex e dv, fun H' ⟨e, acc, h1, h2, _⟩ => ?_, fun i x y H' hi dy ⟨e, acc, h1, h2, h3⟩ => ?_⟩
    · rw [dl, List.take_length] at h2
      exact q _ _ (e1.trans e) (dp_list_new h1 h2)
    · have hil := (List.getElem?_eq_some_iff.mp hi).1
      have hmem := List.mem_of_getElem? hi
      obtain ⟨σ2, hg, hw, hb, hel⟩ := ht x hmem y H' (e0.trans (e1.trans e)) dy
      have etk : ls.take (i + 1) = ls.take i ++ [x] := by rw [List.take_add_one, hi]; rfl
      refine hg _ ⟨hw, hb H' (Ex.refl _) _ fun H3 e3 => ?_⟩
      cases hf : f x with
      | false =>
        rw [if_neg Bool.false_ne_true]
        refine ⟨e.trans e3, acc, e3 _ _ h1, ?_, by omega⟩
        rw [etk, List.filter_append, List.filter_cons_of_neg (by simp [hf]), List.filter_nil, List.append_nil]
        exact dpa_ex e3 h2
      | true =>
        rw [if_pos rfl]
        refine hel hf H3 e3 _ fun z H4 e4 dz => ⟨acc, (e3.trans e4) _ _ h1, Evl.sz_lt (by omega), hexD (e.trans (e3.trans e4)), acc ++ [z], upd_same, ?_, by simp; omega⟩
        have hD4 : H4 D = some (.lst acc) := (e3.trans e4) _ _ h1
        have bt : But D H4 (upd H4 D (.lst (acc ++ [z]))) := But.upd
        rw [etk, List.filter_append, List.filter_cons_of_pos (by simp [hf]), List.filter_nil, List.map_append]
        refine dpa_app (dpa_but bt hD4 (noLs_all fun d hd => ?_) (dpa_ex (e3.trans e4) h2)) (.cons (dp_but bt hD4 (hn x hmem hf) dz) .nil)
        obtain ⟨u, hu, rfl⟩ := List.mem_map.mp hd
        have hu := List.mem_filter.mp hu
        exact hn u (List.mem_of_mem_take hu.1) (by simpa using hu.2)
  cases b with
  | true =>
    refine .inl (hs H0 e0 _ fun v H1 e1 dv => ?_)
    obtain ⟨a, xs, ea, h1, h2⟩ := dp_lst dv
    refine ⟨a, ea, ⟨xs, h1⟩, fun D hD => ?_⟩
    obtain ⟨Pv, p0, pk, pd, pt⟩ := main v H1 D e1 dv hD
    have pt' := fun i y H' (hlt : i < ds.length) (dy : Dp K H' y ds[i]) (p : Pv i H') => pt i (ls[i]'(by omega)) y H' (List.getElem?_eq_getElem (by omega)) (by
      have q : ds[i] = I (ls[i]'(by omega)) := by subst hds; rw [List.getElem_map]
      rw [← q]; exact dy) p
    refine ⟨fun i m H' => m = ds.length - i ∧ i ≤ ds.length ∧ Pv i H', ⟨ds.length, by simp, Nat.zero_le _, p0⟩, ?_⟩
    rintro i m H' ⟨rfl, hi, p⟩
    obtain ⟨a', ys, ea', k1, k2⟩ := dp_lst (pk i H' p)
    rw [ea] at ea'
    cases ea'
    have hl := dpa_len k2
    by_cases hlt : i < ds.length
    · obtain ⟨y, hv, dy⟩ := dpa_get k2 (List.getElem?_eq_getElem hlt)
      refine .inr ⟨⟨ys, y, k1, hv⟩, Pv (i + 1), fun H2 p' => ⟨ds.length - (i + 1), by omega, rfl, hlt, p'⟩, fun x H2 yl => ?_⟩
      obtain ⟨e2, yl⟩ := yl
      subst e2
      have e3 := yl ys k1
      rw [hv] at e3
      cases e3
      exact pt' i _ _ hlt dy p
    · have e : i = ds.length := by omega
      subst e
      exact .inl ⟨⟨ys, k1, by omega⟩, pd H' p⟩
  | false =>
    refine .inr (hs H0 e0 _ fun v H1 e1 dv => ?_)
    obtain ⟨a, xs, ea, h1, h2⟩ := dp_tup dv
    refine ⟨a, ea, ⟨xs, h1⟩, fun D hD => ?_⟩
    obtain ⟨Pv, p0, pk, pd, pt⟩ := main v H1 D e1 dv hD
    have pt' := fun i y H' (hlt : i < ds.length) (dy : Dp K H' y ds[i]) (p : Pv i H') => pt i (ls[i]'(by omega)) y H' (List.getElem?_eq_getElem (by omega)) (by
      have q : ds[i] = I (ls[i]'(by omega)) := by subst hds; rw [List.getElem_map]
      rw [← q]; exact dy) p
    refine ⟨fun i m H' => m = ds.length - i ∧ i ≤ ds.length ∧ Pv i H', ⟨ds.length, by simp, Nat.zero_le _, p0⟩, ?_⟩
    rintro i m H' ⟨rfl, hi, p⟩
    obtain ⟨a', ys, ea', k1, k2⟩ := dp_tup (pk i H' p)
    rw [ea] at ea'
    cases ea'
    have hl := dpa_len k2
    by_cases hlt : i < ds.length
    · obtain ⟨y, hv, dy⟩ := dpa_get k2 (List.getElem?_eq_getElem hlt)
      refine .inr ⟨⟨ys, y, k1, hv⟩, Pv (i + 1), fun H2 p' => ⟨ds.length - (i + 1), by omega, rfl, hlt, p'⟩, fun x H2 yl => ?_⟩
      obtain ⟨e2, yl⟩ := yl
      subst e2
      have e3 := yl ys k1
      rw [hv] at e3
      cases e3
      exact pt' i _ _ hlt dy p
    · have e : i = ds.length := by omega
      subst e
      exact .inl ⟨⟨ys, k1, by omega⟩, pd H' p⟩
theorem evd_lc {b : Bool} (f : PyData → Bool) (el : PyData → PyData) (hs : EvD K tk σ H (Seq b ds)) (hz : ds.length ≤ 100000) (hn : ∀ x ∈ ds, f x = true → noL (el x) = true)
    (ht : ∀ x ∈ ds, LcTurn K g tt te vs σ H x (f x) (el x)) : EvD K (tLc (iSeq K tk) g tt te vs) σ H (.list ((ds.filter f).map el)) :=
  evd_lcI id ds f el (by rw [List.map_id]; exact hs) hz hn ht
/-- .. over range(n) -/
theorem evd_lcR {ta : TA} {n : Nat} (f : Nat → Bool) (el : Nat → PyData) (hs : EvDA K ta σ H [.int n]) (hz : n ≤ 100000) (hn : ∀ i, i < n → f i = true → noL (el i) = true)
    (ht : ∀ i, i < n → LcTurn K g tt te vs σ H (.int i) (f i) (el i)) : EvD K (tLc (iRng1 ta) g tt te vs) σ H (.list (((List.range n).filter f).map el)) := by
  intro H0 e0 Q q
  refine hs H0 e0 _ fun us H1 e1 dus => ?_
  obtain ⟨u, rfl, du⟩ := dpa1 dus
  cases dp_int du
  refine ⟨n, rfl, by omega, by omega, fun D hD => ?_⟩
  have hexD : ∀ {G : Hp} {o : HO}, Ex H1 G → Ex H1 (upd G D o) := fun {G o} e a u h => by rw [upd_ne (ne_of_none h hD)]; exact e a u h
  have lr := @lc_range (lo := 0) (n := n) (g := g) (tt := tt) (te := te) (vs := vs) (σ := σ) (H1 := H1) (D := D) (Qd := fun H' => Q (.ref D) H')
    (Pv := fun i H' => Ex H1 H' ∧ ∃ acc, H' D = some (.lst acc) ∧ DpAll K H' acc (((List.range i).filter f).map el) ∧ acc.length ≤ i) ⟨hexD (Ex.refl _), [], upd_same, .nil, Nat.le_refl _⟩
    (fun i H' hi ⟨e, acc, h1, h2, h3⟩ => by
      have he : (0 : Int) + (i : Int) = (i : Int) := by omega
      rw [he]
      obtain ⟨σ2, hg, hw, hb, hel⟩ := ht i hi (.int i) H' (e0.trans (e1.trans e)) (.int i)
      refine hg _ ⟨hw, hb H' (Ex.refl _) _ fun H3 e3 => ?_⟩
      cases hf : f i with
      | false =>
        rw [if_neg Bool.false_ne_true]
        refine ⟨e.trans e3, acc, e3 _ _ h1, ?_, by omega⟩
        rw [List.range_succ, List.filter_append, List.filter_cons_of_neg (by simp [hf]), List.filter_nil, List.append_nil]
        exact dpa_ex e3 h2
      | true =>
        rw [if_pos rfl]
        refine hel hf H3 e3 _ fun z H4 e4 dz => ⟨acc, (e3.trans e4) _ _ h1, Evl.sz_lt (by omega), hexD (e.trans (e3.trans e4)), acc ++ [z], upd_same, ?_, by simp; omega⟩
        have hD4 : H4 D = some (.lst acc) := (e3.trans e4) _ _ h1
        have bt : But D H4 (upd H4 D (.lst (acc ++ [z]))) := But.upd
        rw [List.range_succ, List.filter_append, List.filter_cons_of_pos (by simp [hf]), List.filter_nil, List.map_append]
        refine dpa_app (dpa_but bt hD4 (noLs_all fun d hd => ?_) (dpa_ex (e3.trans e4) h2)) (.cons (dp_but bt hD4 (hn i hi hf) dz) .nil)
        obtain ⟨u, hu, rfl⟩ := List.mem_map.mp hd
        have hu := List.mem_filter.mp hu
        exact hn u (by have := List.mem_range.mp hu.1; omega) (by simpa using hu.2))
    (fun H' ⟨e, acc, h1, h2, _⟩ => q _ _ (e1.trans e) (dp_list_new h1 h2))
  exact lr
/-- turns whose target is a name, or a pair of names -/
theorem lct_name {i : Nat} {x d : PyData} {b : Bool} (hw : ∀ v, wipe ((wipe σ vs).set i (some v)) vs = wipe σ vs) (ht : ∀ v H1, Ex H H1 → Dp K H1 v x → EvT tt ((wipe σ vs).set i (some v)) H1 b ∧ (b = true → EvD K te ((wipe σ vs).set i (some v)) H1 d)) :
    LcTurn K (gName i) tt te vs σ H x b d := fun v H1 e dv => ⟨_, fun Q q => q, hw v, ht v H1 e dv⟩
theorem lct_two {i j : Nat} {x y d : PyData} {b : Bool} (hw : ∀ v u, wipe (((wipe σ vs).set i (some v)).set j (some u)) vs = wipe σ vs)
    (ht : ∀ v u H1, Ex H H1 → Dp K H1 v x → Dp K H1 u y → EvT tt (((wipe σ vs).set i (some v)).set j (some u)) H1 b ∧ (b = true → EvD K te (((wipe σ vs).set i (some v)).set j (some u)) H1 d)) :
    LcTurn K (gTup K 2 (gCons (gName i) (gCons (gName j) gNil))) tt te vs σ H (.tuple [x, y]) b d := fun v H1 e dv => by
  obtain ⟨a, xs, rfl, h1, h2⟩ := dp_tup dv
  obtain ⟨p, q, rfl, hp, hq⟩ := dpa2 h2
  exact ⟨_, fun Q k => ⟨a, [p, q], rfl, h1, rfl, p, [q], rfl, q, [], rfl, rfl, k⟩, hw p q, ht p q H1 e hp hq⟩
theorem lct_three {i j l : Nat} {x y z d : PyData} {b : Bool} (hw : ∀ v u t, wipe ((((wipe σ vs).set i (some v)).set j (some u)).set l (some t)) vs = wipe σ vs)
    (ht : ∀ v u t H1, Ex H H1 → Dp K H1 v x → Dp K H1 u y → Dp K H1 t z → EvT tt ((((wipe σ vs).set i (some v)).set j (some u)).set l (some t)) H1 b ∧ (b = true → EvD K te ((((wipe σ vs).set i (some v)).set j (some u)).set l (some t)) H1 d)) :
    LcTurn K (gTup K 3 (gCons (gName i) (gCons (gName j) (gCons (gName l) gNil)))) tt te vs σ H (.tuple [x, y, z]) b d := fun v H1 e dv => by
  obtain ⟨a, xs, rfl, h1, h2⟩ := dp_tup dv
  obtain ⟨p, q, r, rfl, hp, hq, hr⟩ := dpa3 h2
  exact ⟨_, fun Q k => ⟨a, [p, q, r], rfl, h1, rfl, p, [q, r], rfl, q, [r], rfl, r, [], rfl, rfl, k⟩, hw p q r, ht p q r H1 e hp hq hr⟩
theorem et_yes {σ : L2.St} {H : Hp} : EvT tYes σ H true := fun H1 _ _ q => q H1 (Ex.refl H1)
/-! all([..]), and comprehensions without a test -/
theorem filter_yes {α : Type} (l : List α) : l.filter (fun _ => true) = l := by
  induction l with
  | nil => rfl
  | cons a l ih => rw [List.filter_cons_of_pos rfl, ih]
theorem evd_map {b : Bool} (el : PyData → PyData) (hs : EvD K tk σ H (Seq b ds)) (hz : ds.length ≤ 100000) (hn : ∀ x ∈ ds, noL (el x) = true)
    (ht : ∀ x ∈ ds, LcTurn K g tYes te vs σ H x true (el x)) : EvD K (tLc (iSeq K tk) g tYes te vs) σ H (.list (ds.map el)) :=
  evd_is (evd_lc (fun _ => true) el hs hz (fun x hx _ => hn x hx) ht) (by rw [filter_yes])
theorem evd_mapR {ta : TA} {n : Nat} (el : Nat → PyData) (hs : EvDA K ta σ H [.int n]) (hz : n ≤ 100000) (hn : ∀ i, i < n → noL (el i) = true)
    (ht : ∀ i, i < n → LcTurn K g tYes te vs σ H (.int i) true (el i)) : EvD K (tLc (iRng1 ta) g tYes te vs) σ H (.list ((List.range n).map el)) :=
  evd_is (evd_lcR (fun _ => true) el hs hz (fun x hx _ => hn x hx) ht) (by rw [filter_yes])
theorem all_id {α : Type} (l : List α) (p : α → Bool) : ((l.map p).all id) = l.all p := by
  induction l with
  | nil => rfl
  | cons a l ih => rw [List.map_cons, List.all_cons, List.all_cons, ih]; rfl
theorem evd_all {b : Bool} (p : PyData → Bool) (hs : EvD K tk σ H (Seq b ds)) (hz : ds.length ≤ 100000)
    (ht : ∀ x ∈ ds, LcTurn K g tYes te vs σ H x true (.bool (p x))) : EvD K (tCB (rAll K) (tCons (tLc (iSeq K tk) g tYes te vs) tNil)) σ H (.bool (ds.all p)) := by
  refine evd_is (evd_cb (ds := [.list ((ds.map p).map .bool)]) (evda_cons (evd_is (evd_map (fun x => .bool (p x)) hs hz (fun _ _ => rfl) ht) ?_) evda_nil) rc_all) ?_
  · rw [List.map_map]; rfl
  · rw [all_id]
theorem evd_allR {ta : TA} {n : Nat} (p : Nat → Bool) (hs : EvDA K ta σ H [.int n]) (hz : n ≤ 100000)
    (ht : ∀ i, i < n → LcTurn K g tYes te vs σ H (.int i) true (.bool (p i))) : EvD K (tCB (rAll K) (tCons (tLc (iRng1 ta) g tYes te vs) tNil)) σ H (.bool ((List.range n).all p)) := by
  refine evd_is (evd_cb (ds := [.list (((List.range n).map p).map .bool)]) (evda_cons (evd_is (evd_mapR (fun x => .bool (p x)) hs hz (fun _ _ => rfl) ht) ?_) evda_nil) rc_all) ?_
  · rw [List.map_map]; rfl
  · rw [all_id]
end
end Bw
end
section
namespace Bfb
/-! closed sets of counts and their falling rows: plain mathematics -/
abbrev Runs := List (Nat × Nat)
def within : Runs → Nat → Nat → Bool
  | [], e, c => decide (c % e = 0)
  | (s, t) :: r, e, c => if c < s * t then decide (c % s = 0) else within r e (c - s * t)
theorem within_c (s t : Nat) (r : Runs) (e c : Nat) : within ((s, t) :: r) e c = if c < s * t then decide (c % s = 0) else within r e (c - s * t) := rfl
def fstep : Runs → Nat → Nat
  | [], e => e
  | (s, _) :: _, _ => s
def Valid : Runs → Nat → Prop
  | [], _ => True
  | (s, t) :: r, e => 0 < t ∧ fstep r e < s ∧ 0 < fstep r e ∧ within r e s = true ∧ Valid r e
def far : Runs → Nat
  | [] => 0
  | (s, t) :: r => s * t + far r
structure Closed (S : Nat → Prop) : Prop where
  zero : S 0
  step : ∀ x y z, S x → S y → S z → z ≤ x → z ≤ y → S (x + y - z)
def Cl (g : Nat → Prop) (n : Nat) : Prop := ∀ S : Nat → Prop, Closed S → (∀ x, g x → S x) → S n
theorem Cl.closed (g : Nat → Prop) : Closed (Cl g) :=
  ⟨fun _ c _ => c.zero, fun x y z hx hy hz h1 h2 S c h => c.step x y z (hx S c h) (hy S c h) (hz S c h) h1 h2⟩
theorem Cl.base {g : Nat → Prop} {n : Nat} (h : g n) : Cl g n := fun _ _ k => k n h
theorem Cl.least {g S : Nat → Prop} (c : Closed S) (h : ∀ x, g x → S x) {n : Nat} (hn : Cl g n) : S n := hn S c h
theorem Cl.mono {g g' : Nat → Prop} (h : ∀ x, g x → Cl g' x) {n : Nat} (hn : Cl g n) : Cl g' n := hn _ (Cl.closed g') h
theorem Closed.mul {S : Nat → Prop} (c : Closed S) {a : Nat} (ha : S a) : ∀ j, S (j * a)
  | 0 => by rw [Nat.zero_mul]; exact c.zero
  | j + 1 => by
    have h := c.step (j * a) a 0 (c.mul ha j) ha c.zero (Nat.zero_le _) (Nat.zero_le _)
    rw [Nat.sub_zero] at h
    rw [Nat.succ_mul]; exact h
theorem Closed.add {S : Nat → Prop} (c : Closed S) {x y : Nat} (hx : S x) (hy : S y) : S (x + y) := by
  have h := c.step x y 0 hx hy c.zero (Nat.zero_le _) (Nat.zero_le _)
  rwa [Nat.sub_zero] at h
theorem Closed.shift {S : Nat → Prop} (c : Closed S) {k : Nat} (hk : S k) : Closed (fun m => S (k + m)) := by
  refine ⟨hk, fun x y z hx hy hz h1 h2 => ?_⟩
  have h := c.step (k + x) (k + y) (k + z) hx hy hz (by omega) (by omega)
  have e : k + x + (k + y) - (k + z) = k + (x + y - z) := by omega
  rw [e] at h; exact h
/-- some steps of one length, then a closed set that has the step -/
def Pre (a k : Nat) (T : Nat → Prop) (n : Nat) : Prop := (∃ j, j < k ∧ n = j * a) ∨ ∃ m, n = k * a + m ∧ T m
theorem Pre.mul {a k : Nat} {T : Nat → Prop} (c : Closed T) (ha : T a) (j : Nat) : Pre a k T (j * a) := by
  by_cases h : j < k
  · exact .inl ⟨j, h, rfl⟩
  · refine .inr ⟨(j - k) * a, ?_, c.mul ha _⟩
    rw [← Nat.add_mul]; congr 1; omega
theorem pre_closed {a k : Nat} {T : Nat → Prop} (c : Closed T) (ha : T a) (hp : 0 < a) : Closed (Pre a k T) := by
  refine ⟨by have := Pre.mul (k := k) c ha 0; rwa [Nat.zero_mul] at this, fun x y z hx hy hz h1 h2 => ?_⟩
  rcases hz with ⟨l, hl, rfl⟩ | ⟨u, rfl, hu⟩
  · rcases hx with ⟨i, hi, rfl⟩ | ⟨m, rfl, hm⟩
    · have hli : l ≤ i := Nat.le_of_mul_le_mul_right h1 hp
      rcases hy with ⟨j, hj, rfl⟩ | ⟨m', rfl, hm'⟩
      · have e : i * a + j * a - l * a = (i + j - l) * a := by rw [Nat.sub_mul, Nat.add_mul]
        rw [e]; exact Pre.mul c ha _
      · refine .inr ⟨m' + (i - l) * a, ?_, c.add hm' (c.mul ha _)⟩
        have e : (i - l) * a = i * a - l * a := Nat.sub_mul _ _ _
        omega
    · have hlk : l * a ≤ k * a := Nat.mul_le_mul_right a (Nat.le_of_lt hl)
      have e : (k - l) * a = k * a - l * a := Nat.sub_mul _ _ _
      rcases hy with ⟨j, hj, rfl⟩ | ⟨m', rfl, hm'⟩
      · refine .inr ⟨m + (j - l) * a, ?_, c.add hm (c.mul ha _)⟩
        have e : (j - l) * a = j * a - l * a := Nat.sub_mul _ _ _
        omega
      · refine .inr ⟨m + m' + (k - l) * a, by omega, c.add (c.add hm hm') (c.mul ha _)⟩
  · have lt : ∀ i, i < k → i * a < k * a := fun i hi => Nat.mul_lt_mul_of_pos_right hi hp
    rcases hx with ⟨i, hi, rfl⟩ | ⟨m, rfl, hm⟩
    · have := lt i hi; omega
    · rcases hy with ⟨j, hj, rfl⟩ | ⟨m', rfl, hm'⟩
      · have := lt j hj; omega
      · exact .inr ⟨m + m' - u, by omega, c.step m m' u hm hm' hu (by omega) (by omega)⟩
/-! ### rows -/
theorem fstep_pos_of_valid {s t : Nat} {r : Runs} {e : Nat} (v : Valid ((s, t) :: r) e) : 0 < s := Nat.lt_trans v.2.2.1 v.2.1
theorem within_cons {s t : Nat} {r : Runs} {e n : Nat} (hs : 0 < s) : within ((s, t) :: r) e n = true ↔ Pre s t (fun m => within r e m = true) n := by
  rw [within_c]
  constructor
  · intro h
    split at h
    · rename_i hlt
      have h := of_decide_eq_true h
      refine .inl ⟨n / s, ?_, ?_⟩
      · rw [Nat.div_lt_iff_lt_mul hs, Nat.mul_comm]; exact hlt
      · exact (Nat.div_mul_cancel (Nat.dvd_of_mod_eq_zero h)).symm
    · rename_i hge
      exact .inr ⟨n - s * t, by rw [Nat.mul_comm t s]; omega, h⟩
  · rintro (⟨j, hj, rfl⟩ | ⟨m, rfl, hm⟩)
    · rw [if_pos (by rw [Nat.mul_comm s t]; exact Nat.mul_lt_mul_of_pos_right hj hs)]
      exact decide_eq_true (Nat.mul_mod_left _ _)
    · rw [Nat.mul_comm t s, if_neg (by omega), Nat.add_sub_cancel_left]; exact hm
theorem valid_closed : ∀ {r : Runs} {e : Nat}, Valid r e → Closed (fun n => within r e n = true)
  | [], e, _ => by
    refine ⟨by simp [within], fun x y z hx hy hz h1 h2 => ?_⟩
    simp only [within, decide_eq_true_eq] at *
    have hx := Nat.dvd_of_mod_eq_zero hx
    have hy := Nat.dvd_of_mod_eq_zero hy
    have hz := Nat.dvd_of_mod_eq_zero hz
    exact Nat.mod_eq_zero_of_dvd (Nat.dvd_sub (Nat.dvd_add hx hy) hz)
  | (s, t) :: r, e, v => by
    have hs := fstep_pos_of_valid v
    have c := pre_closed (k := t) (valid_closed v.2.2.2.2) v.2.2.2.1 hs
    exact ⟨(within_cons hs).mpr c.zero, fun x y z hx hy hz h1 h2 => (within_cons hs).mpr (c.step x y z ((within_cons hs).mp hx) ((within_cons hs).mp hy) ((within_cons hs).mp hz) h1 h2)⟩
theorem fstep_in : ∀ {r : Runs} {e : Nat}, Valid r e → within r e (fstep r e) = true
  | [], e, _ => by simp [within, fstep]
  | (s, t) :: r, e, v => by
    have hs := fstep_pos_of_valid v
    have c := pre_closed (k := t) (valid_closed v.2.2.2.2) v.2.2.2.1 hs
    have h := Pre.mul (k := t) (valid_closed v.2.2.2.2) v.2.2.2.1 1
    rw [Nat.one_mul] at h
    exact (within_cons hs).mpr h
theorem fstep_least : ∀ {r : Runs} {e n : Nat}, Valid r e → within r e n = true → 0 < n → fstep r e ≤ n ∧ 0 < fstep r e
  | [], e, n, _, h, hn => by
    simp only [within, decide_eq_true_eq] at h
    have hd := Nat.dvd_of_mod_eq_zero h
    exact ⟨Nat.le_of_dvd hn hd, Nat.pos_of_dvd_of_pos hd hn⟩
  | (s, t) :: r, e, n, v, h, hn => by
    have hs := fstep_pos_of_valid v
    refine ⟨?_, hs⟩
    rcases (within_cons hs).mp h with ⟨j, hj, rfl⟩ | ⟨m, rfl, hm⟩
    · show s ≤ j * s
      exact Nat.le_mul_of_pos_left s (Nat.pos_of_ne_zero (fun z => by subst z; simp at hn))
    · show s ≤ t * s + m
      have : s ≤ t * s := Nat.le_mul_of_pos_left s v.1
      omega
/-- the row of a set -/
structure IsRow (r : Runs) (e : Nat) (S : Nat → Prop) : Prop where
  ok : Valid r e
  mem : ∀ n, within r e n = true ↔ S n
theorem IsRow.closed {r : Runs} {e : Nat} {S : Nat → Prop} (h : IsRow r e S) : Closed S := by
  have c := valid_closed h.ok
  exact ⟨(h.mem 0).mp c.zero, fun x y z hx hy hz h1 h2 => (h.mem _).mp (c.step x y z ((h.mem _).mpr hx) ((h.mem _).mpr hy) ((h.mem _).mpr hz) h1 h2)⟩
theorem IsRow.congr {r : Runs} {e : Nat} {S S' : Nat → Prop} (h : IsRow r e S) (k : ∀ n, S n ↔ S' n) : IsRow r e S' := ⟨h.ok, fun n => (h.mem n).trans (k n)⟩
/-- the first step of a row of two sets that are one -/
theorem fstep_eq {r r' : Runs} {e e' : Nat} (v : Valid r e) (v' : Valid r' e') (h : ∀ n, within r e n = true ↔ within r' e' n = true) : fstep r e = fstep r' e' := by
  by_cases h1 : 0 < fstep r e
  · have a := fstep_least v' ((h _).mp (fstep_in v)) h1
    have b := fstep_least v ((h _).mpr (fstep_in v')) a.2
    omega
  · by_cases h2 : 0 < fstep r' e'
    · have b := fstep_least v ((h _).mpr (fstep_in v')) h2
      omega
    · omega
/-- one step off -/
def tailR : Runs → Runs
  | [] => []
  | (s, t) :: r => if t = 1 then r else (s, t - 1) :: r
theorem tailR_c (s t : Nat) (r : Runs) : tailR ((s, t) :: r) = if t = 1 then r else (s, t - 1) :: r := rfl
theorem tailR_valid : ∀ {r : Runs} {e : Nat}, Valid r e → Valid (tailR r) e
  | [], _, _ => trivial
  | (s, t) :: r, e, v => by
    rw [tailR_c]
    split
    · exact v.2.2.2.2
    · exact ⟨by have := v.1; omega, v.2⟩
theorem tailR_mem : ∀ {r : Runs} {e : Nat}, Valid r e → ∀ n, within (tailR r) e n = true ↔ within r e (fstep r e + n) = true
  | [], e, _, n => by simp [within, fstep, tailR]
  | (s, t) :: r, e, v, n => by
    have hs := fstep_pos_of_valid v
    have ht := v.1
    rw [tailR_c]
    show _ ↔ within ((s, t) :: r) e (s + n) = true
    split
    · rename_i h1
      subst h1
      rw [within_cons hs]
      constructor
      · intro h; exact .inr ⟨n, by omega, h⟩
      · rintro (⟨j, hj, q⟩ | ⟨m, q, hm⟩)
        · have : j = 0 := by omega
          subst this; omega
        · have : m = n := by omega
          rw [← this]; exact hm
    · rename_i h1
      rw [within_cons hs, within_cons hs]
      have e1 : t * s = s + (t - 1) * s := by rw [Nat.sub_mul, Nat.one_mul]; have := Nat.le_mul_of_pos_left s ht; omega
      constructor
      · rintro (⟨j, hj, rfl⟩ | ⟨m, rfl, hm⟩)
        · exact .inl ⟨j + 1, by omega, by rw [Nat.succ_mul]; omega⟩
        · exact .inr ⟨m, by omega, hm⟩
      · rintro (⟨j, hj, q⟩ | ⟨m, q, hm⟩)
        · cases j with
          | zero => omega
          | succ j => exact .inl ⟨j, by omega, by rw [Nat.succ_mul] at q; omega⟩
        · exact .inr ⟨m, by omega, hm⟩
def nsteps : Runs → Nat
  | [] => 0
  | (_, t) :: r => t + nsteps r
theorem tailR_n : ∀ {r : Runs} {e : Nat}, Valid r e → r ≠ [] → nsteps (tailR r) + 1 = nsteps r
  | [], _, _, h => absurd rfl h
  | (s, t) :: r, e, v, _ => by
    have := v.1
    rw [tailR_c]
    split
    · rename_i h; simp [nsteps]; omega
    · simp [nsteps]; omega
theorem flat_row : ∀ (k : Nat) {r : Runs} {e d : Nat}, nsteps r ≤ k → Valid r e → (∀ n, within r e n = true ↔ n % d = 0) → r = [] ∧ e = d
  | k, [], e, d, _, v, h => by
    have := fstep_eq (r := []) (r' := []) (e := e) (e' := d) trivial trivial (fun n => by rw [h n]; simp [within])
    exact ⟨rfl, this⟩
  | 0, (s, t) :: r, e, d, hk, v, h => by have := v.1; simp [nsteps] at hk; omega
  | k + 1, (s, t) :: r, e, d, hk, v, h => by
    exfalso
    have hs := fstep_pos_of_valid v
    have e1 : fstep ((s, t) :: r) e = fstep [] d := fstep_eq v trivial (fun n => by rw [h n]; simp [within])
    have e1 : s = d := e1
    have hn := tailR_n v (by simp)
    obtain ⟨h2, h3⟩ := flat_row k (r := tailR ((s, t) :: r)) (e := e) (d := d) (by omega) (tailR_valid v) (fun n => by
      rw [tailR_mem v, h, show fstep ((s, t) :: r) e = d from e1, Nat.add_mod_left])
    have h4 : r = [] := by
      rw [tailR_c] at h2
      split at h2
      · exact h2
      · cases h2
    subst h4
    have : e < s := v.2.1
    omega
theorem row_unique_n : ∀ (k : Nat) {r r' : Runs} {e e' : Nat}, nsteps r ≤ k → Valid r e → Valid r' e' → (∀ n, within r e n = true ↔ within r' e' n = true) → r = r' ∧ e = e'
  | k, [], r', e, e', _, v, v', h => by
    obtain ⟨a, b⟩ := flat_row (nsteps r') (r := r') (e := e') (d := e) (Nat.le_refl _) v' (fun n => by rw [← h n]; simp [within])
    exact ⟨a.symm, b.symm⟩
  | k, (s, t) :: r, [], e, e', _, v, v', h => by
    obtain ⟨a, b⟩ := flat_row (nsteps ((s, t) :: r)) (e := e) (d := e') (Nat.le_refl _) v (fun n => by rw [h n]; simp [within])
    exact ⟨a, b⟩
  | 0, (s, t) :: r, _ :: _, e, e', hk, v, v', h => by have := v.1; simp [nsteps] at hk; omega
  | k + 1, (s, t) :: r, (s', t') :: r', e, e', hk, v, v', h => by
    have e1 : s = s' := fstep_eq v v' h
    subst e1
    have hn := tailR_n v (by simp)
    obtain ⟨h2, h3⟩ := row_unique_n k (r := tailR ((s, t) :: r)) (r' := tailR ((s, t') :: r')) (by omega) (tailR_valid v) (tailR_valid v') (fun n => by
      rw [tailR_mem v, tailR_mem v']; exact h _)
    subst h3
    refine ⟨?_, rfl⟩
    have a1 := v.1
    have a2 := v'.1
    have b1 := v.2.1
    have b2 := v'.2.1
    rw [tailR_c, tailR_c] at h2
    split at h2 <;> split at h2
    · rename_i c1 c2; rw [c1, c2, h2]
    · rename_i c1 c2
      rw [h2] at b1
      exact absurd b1 (Nat.lt_irrefl _)
    · rename_i c1 c2
      rw [← h2] at b2
      exact absurd b2 (Nat.lt_irrefl _)
    · rename_i c1 c2
      injection h2 with q1 q2
      injection q1 with _ q3
      rw [q2, show t = t' by omega]
theorem row_unique {r r' : Runs} {e e' : Nat} {S : Nat → Prop} (h : IsRow r e S) (h' : IsRow r' e' S) : r = r' ∧ e = e' :=
  row_unique_n (nsteps r) (Nat.le_refl _) h.ok h'.ok (fun n => (h.mem n).trans (h'.mem n).symm)
end Bfb
end
section
namespace Bfb
/-! the closing of some counts, by Euclid's way -/
/-- what is left behind k steps of length a -/
def Beh (l : Nat → Prop) (a k : Nat) (b : Nat) : Prop := b = a ∨ ∃ c, l c ∧ k * a < c ∧ b = c - k * a
theorem cl_step {l : Nat → Prop} {a k : Nat} (ha : l a) (hp : 0 < a) (hk : ∀ c, l c → c % a ≠ 0 → k ≤ c / a) (n : Nat) :
    Cl l n ↔ Pre a k (Cl (Beh l a k)) n := by
  have hT : Closed (Cl (Beh l a k)) := Cl.closed _
  have haT : Cl (Beh l a k) a := Cl.base (.inl rfl)
  constructor
  · intro h
    refine Cl.least (pre_closed hT haT hp) (fun c hc => ?_) h
    by_cases hd : c % a = 0
    · have e : c = (c / a) * a := (Nat.div_mul_cancel (Nat.dvd_of_mod_eq_zero hd)).symm
      rw [e]; exact Pre.mul hT haT _
    · have h1 := hk c hc hd
      have h2 : k * a ≤ (c / a) * a := Nat.mul_le_mul_right a h1
      have h3 := Nat.div_add_mod c a
      rw [Nat.mul_comm] at h3
      have h4 : 0 < c % a := Nat.pos_of_ne_zero hd
      exact .inr ⟨c - k * a, by omega, Cl.base (.inr ⟨c, hc, by omega, rfl⟩)⟩
  · have hS : Closed (Cl l) := Cl.closed _
    have haS : Cl l a := Cl.base ha
    rintro (⟨j, hj, rfl⟩ | ⟨m, rfl, hm⟩)
    · exact hS.mul haS j
    · have hka := hS.mul haS k
      refine Cl.least (S := fun m => Cl l (k * a + m)) (hS.shift hka) (fun b hb => ?_) hm
      rcases hb with rfl | ⟨c, hc, hlt, rfl⟩
      · exact hS.add hka haS
      · show Cl l (k * a + (c - k * a))
        rw [show k * a + (c - k * a) = c by omega]
        exact Cl.base hc
/-- the row of the closing, and how far its runs go -/
structure Good (l : Nat → Prop) (r : Runs) (e : Nat) : Prop where
  row : IsRow r e (Cl l)
  far : ∀ M m, (∀ c, l c → c ≤ M) → l m → far r ≤ M + m
theorem good_nil {l : Nat → Prop} (h : ∀ c, ¬ l c) : Good l [] 0 := by
  refine ⟨⟨trivial, fun n => ?_⟩, fun M m _ hm => absurd hm (h m)⟩
  simp only [within, Nat.mod_zero, decide_eq_true_eq]
  constructor
  · rintro rfl; exact (Cl.closed l).zero
  · intro hn
    exact Cl.least (S := fun n => n = 0) ⟨rfl, fun x y z hx hy _ _ _ => by omega⟩ (fun x hx => absurd hx (h x)) hn
theorem good_flat {l : Nat → Prop} {a : Nat} (ha : l a) (h : ∀ c, l c → c % a = 0) : Good l [] a := by
  refine ⟨⟨trivial, fun n => ?_⟩, fun M m _ hm => Nat.zero_le _⟩
  simp only [within, decide_eq_true_eq]
  constructor
  · intro hn
    have e : n = (n / a) * a := (Nat.div_mul_cancel (Nat.dvd_of_mod_eq_zero hn)).symm
    rw [e]; exact (Cl.closed l).mul (Cl.base ha) _
  · intro hn
    have c := valid_closed (r := []) (e := a) trivial
    have := Cl.least c (fun x hx => by simp only [within, decide_eq_true_eq]; exact h x hx) hn
    simpa only [within, decide_eq_true_eq] using this
theorem good_step {l : Nat → Prop} {a k c0 : Nat} {r : Runs} {e : Nat} (ha : l a) (hp : 0 < a) (hmin : ∀ c, l c → a ≤ c) (hk : ∀ c, l c → c % a ≠ 0 → k ≤ c / a)
    (hc : l c0) (hc0 : c0 % a ≠ 0) (hck : c0 / a = k) (g : Good (Beh l a k) r e) : Good l ((a, k) :: r) e := by
  have hk1 : 0 < k := by rw [← hck]; exact Nat.div_pos (hmin c0 hc) hp
  have h3 := Nat.div_add_mod c0 a
  rw [Nat.mul_comm, hck] at h3
  have h4 : 0 < c0 % a := Nat.pos_of_ne_zero hc0
  have h5 : c0 % a < a := Nat.mod_lt _ hp
  have hin : Beh l a k (c0 - k * a) := .inr ⟨c0, hc, by omega, rfl⟩
  have hf := fstep_least g.row.ok ((g.row.mem _).mpr (Cl.base hin)) (by omega)
  have hv : Valid ((a, k) :: r) e := ⟨hk1, by omega, hf.2, (g.row.mem a).mpr (Cl.base (.inl rfl)), g.row.ok⟩
  refine ⟨⟨hv, fun n => ?_⟩, fun M m hM hm => ?_⟩
  · rw [within_cons hp, cl_step ha hp hk]
    have : ∀ n, Pre a k (fun m => within r e m = true) n ↔ Pre a k (Cl (Beh l a k)) n := fun n => by
      unfold Pre
      simp only [g.row.mem]
    exact this n
  · have hma := hmin m hm
    have hMc := hM c0 hc
    show a * k + far r ≤ M + m
    have hmul : a * k = k * a := Nat.mul_comm _ _
    by_cases hb : a ≤ M - k * a
    · have := g.far (M - k * a) (c0 - k * a) (fun b hb' => by
        rcases hb' with rfl | ⟨c, hc', _, rfl⟩
        · exact hb
        · have := hM c hc'; omega) hin
      omega
    · have := g.far a (c0 - k * a) (fun b hb' => by
        rcases hb' with rfl | ⟨c, hc', _, rfl⟩
        · exact Nat.le_refl _
        · have := hM c hc'; omega) hin
      omega
theorem Good.congr {l l' : Nat → Prop} {r : Runs} {e : Nat} (g : Good l r e) (h : ∀ c, l c ↔ l' c) : Good l' r e := by
  have : l = l' := funext fun c => propext (h c)
  rw [← this]; exact g
/-! ### starts and tellers -/
def starts : Runs → Nat → List Nat
  | [], e => [e]
  | (s, t) :: r, e => s :: (starts r e).map (s * t + ·)
def barred : Runs → List Nat
  | [] => []
  | (s, t) :: r => (s * t + s) :: (barred r).map (s * t + ·)
theorem starts_in : ∀ {r : Runs} {e : Nat}, Valid r e → ∀ x ∈ starts r e, within r e x = true
  | [], e, _, x, hx => by
    have : x = e := by simpa [starts] using hx
    subst this; simp [within]
  | (s, t) :: r, e, v, x, hx => by
    have hs := fstep_pos_of_valid v
    rw [within_cons hs]
    rcases List.mem_cons.mp hx with rfl | hx
    · have := Pre.mul (k := t) (valid_closed v.2.2.2.2) v.2.2.2.1 1
      rwa [Nat.one_mul] at this
    · obtain ⟨y, hy, rfl⟩ := List.mem_map.mp hx
      exact .inr ⟨y, by rw [Nat.mul_comm t s], starts_in v.2.2.2.2 y hy⟩
theorem starts_le : ∀ {r : Runs} {e : Nat}, Valid r e → ∀ x ∈ starts r e, x ≤ far r + e
  | [], e, _, x, hx => by
    have : x = e := by simpa [starts] using hx
    omega
  | (s, t) :: r, e, v, x, hx => by
    rcases List.mem_cons.mp hx with rfl | hx
    · have : x ≤ x * t := Nat.le_mul_of_pos_right _ v.1
      show x ≤ x * t + far r + e
      omega
    · obtain ⟨y, hy, rfl⟩ := List.mem_map.mp hx
      have := starts_le v.2.2.2.2 y hy
      show s * t + y ≤ s * t + far r + e
      omega
/-- a closed set with all starts has the whole row -/
theorem starts_all : ∀ {r : Runs} {e : Nat}, Valid r e → ∀ {S : Nat → Prop}, Closed S → (∀ x ∈ starts r e, S x) → ∀ n, within r e n = true → S n
  | [], e, _, S, c, h, n, hn => by
    simp only [within, decide_eq_true_eq] at hn
    have e1 : n = (n / e) * e := (Nat.div_mul_cancel (Nat.dvd_of_mod_eq_zero hn)).symm
    rw [e1]; exact c.mul (h e (by simp [starts])) _
  | (s, t) :: r, e, v, S, c, h, n, hn => by
    have hs := fstep_pos_of_valid v
    have h1 : S s := h s (by simp [starts])
    rcases (within_cons hs).mp hn with ⟨j, hj, rfl⟩ | ⟨m, rfl, hm⟩
    · exact c.mul h1 j
    · have hk := c.mul h1 t
      refine starts_all v.2.2.2.2 (S := fun m => S (t * s + m)) (c.shift hk) (fun x hx => ?_) m hm
      show S (t * s + x)
      rw [Nat.mul_comm t s]
      exact h _ (List.mem_cons_of_mem _ (List.mem_map.mpr ⟨x, hx, rfl⟩))
/-- what tells a row: from its starts all that the barred ones do not tell -/
theorem tellers_all : ∀ {r : Runs} {e : Nat}, Valid r e → ∀ {S : Nat → Prop}, Closed S → ∀ (bar : Nat → Prop),
    (∀ x, bar x → 0 < e → (∀ y ∈ starts r e, y < x → S y) → x ∈ starts r e → S x) →
    (∀ x ∈ starts r e, x ∈ barred r ∨ bar x ∨ S x) → 0 < e → ∀ x ∈ starts r e, S x
  | [], e, _, S, c, bar, hb, h, he, x, hx => by
    have hx' : x = e := by simpa [starts] using hx
    rcases h x hx with q | q | q
    · simp [barred] at q
    · refine hb x q he (fun y hy hlt => ?_) hx
      have : y = e := by simpa [starts] using hy
      omega
    · exact q
  | (s, t) :: r, e, v, S, c, bar, hb, h, he, x, hx => by
    have hs := fstep_pos_of_valid v
    have ht := v.1
    have hst : s ≤ s * t := Nat.le_mul_of_pos_right _ ht
    -- the first start
    have hS : S s := by
      rcases h s (by simp [starts]) with q | q | q
      · exfalso
        rcases List.mem_cons.mp q with q | q
        · omega
        · obtain ⟨y, _, q⟩ := List.mem_map.mp q
          have : y = 0 ∧ t = 1 ∨ 0 < y := by
            by_cases hy : y = 0
            · left; refine ⟨hy, ?_⟩
              by_cases h1 : t = 1
              · exact h1
              · have : s * 2 ≤ s * t := Nat.mul_le_mul_left s (by omega)
                omega
            · right; omega
          rcases this with ⟨hy, _⟩ | hy
          · -- barred numbers behind are positive
            rename_i hmem _
            subst hy
            have pos : ∀ {r : Runs}, Valid r e → ∀ z ∈ barred r, 0 < z := by
              intro r
              induction r with
              | nil => intro _ z hz; simp [barred] at hz
              | cons p r ih =>
                obtain ⟨s', t'⟩ := p
                intro v' z hz
                have := fstep_pos_of_valid v'
                rcases List.mem_cons.mp hz with rfl | hz
                · omega
                · obtain ⟨y, hy, rfl⟩ := List.mem_map.mp hz
                  have := ih v'.2.2.2.2 y hy
                  omega
            exact absurd (pos v.2.2.2.2 0 hmem) (Nat.lt_irrefl _)
          · omega
      · refine hb s q he (fun y hy hlt => ?_) (by simp [starts])
        exfalso
        rcases List.mem_cons.mp hy with rfl | hy
        · omega
        · obtain ⟨z, hz, rfl⟩ := List.mem_map.mp hy
          omega
      · exact q
    rcases List.mem_cons.mp hx with rfl | hx
    · exact hS
    · obtain ⟨y, hy, rfl⟩ := List.mem_map.mp hx
      have hk := c.mul hS t
      have hk' : S (s * t) := by rw [Nat.mul_comm]; exact hk
      have base := tellers_all v.2.2.2.2 (S := fun m => S (s * t + m)) (c.shift hk') (fun z => bar (s * t + z) ∨ z = s) (fun z hz he' hl hz' => ?_) (fun z hz => ?_) he y hy
      · exact base
      · show S (s * t + z)
        rcases hz with hz | rfl
        · refine hb _ hz he (fun w hw hlt => ?_) (List.mem_cons_of_mem _ (List.mem_map.mpr ⟨z, hz', rfl⟩))
          rcases List.mem_cons.mp hw with rfl | hw
          · exact hS
          · obtain ⟨w', hw', rfl⟩ := List.mem_map.mp hw
            exact hl w' hw' (by omega)
        · exact c.add hk' hS
      · show z ∈ barred r ∨ (bar (s * t + z) ∨ z = s) ∨ S (s * t + z)
        rcases h (s * t + z) (List.mem_cons_of_mem _ (List.mem_map.mpr ⟨z, hz, rfl⟩)) with q | q | q
        · rcases List.mem_cons.mp q with q | q
          · exact .inr (.inl (.inr (by omega)))
          · obtain ⟨w, hw, q⟩ := List.mem_map.mp q
            exact .inl (by rw [show z = w by omega]; exact hw)
        · exact .inr (.inl (.inl q))
        · exact .inr (.inr q)
def tellers (r : Runs) (e : Nat) : List Nat := (starts r e).filter fun x => decide (0 < x) && !((barred r).contains x)
theorem starts_pos : ∀ {r : Runs} {e : Nat}, Valid r e → 0 < e → ∀ x ∈ starts r e, 0 < x
  | [], e, _, he, x, hx => by
    have : x = e := by simpa [starts] using hx
    omega
  | (s, t) :: r, e, v, he, x, hx => by
    have hs := fstep_pos_of_valid v
    rcases List.mem_cons.mp hx with rfl | hx
    · exact hs
    · obtain ⟨y, hy, rfl⟩ := List.mem_map.mp hx
      have := starts_pos v.2.2.2.2 he y hy
      omega
theorem fstep_le_end : ∀ {r : Runs} {e : Nat}, Valid r e → 0 < fstep r e → 0 < e
  | [], e, _, h => h
  | (s, t) :: r, e, v, _ => fstep_le_end v.2.2.2.2 v.2.2.1
/-- a row of steps has an end other than 0 -/
theorem end_pos {r : Runs} {e : Nat} (v : Valid r e) (h : r ≠ []) : 0 < e := by
  match r, v, h with
  | (s, t) :: r, v, _ => exact fstep_le_end v.2.2.2.2 v.2.2.1
theorem tellers_tell {r : Runs} {e : Nat} (v : Valid r e) {S : Nat → Prop} (c : Closed S) (h : ∀ x ∈ tellers r e, S x) : ∀ n, within r e n = true → S n := by
  by_cases he : 0 < e
  · refine starts_all v c (tellers_all v c (fun _ => False) (fun _ z => z.elim) (fun x hx => ?_) he)
    by_cases hb : x ∈ barred r
    · exact .inl hb
    · refine .inr (.inr (h x (List.mem_filter.mpr ⟨hx, ?_⟩)))
      simp [starts_pos v he x hx, hb]
  · have e0 : e = 0 := by omega
    have r0 : r = [] := by
      by_cases hr : r = []
      · exact hr
      · exact absurd (end_pos v hr) he
    subst e0 r0
    intro n hn
    simp only [within, Nat.mod_zero, decide_eq_true_eq] at hn
    subst hn; exact c.zero
theorem tellers_in {r : Runs} {e : Nat} (v : Valid r e) : ∀ x ∈ tellers r e, within r e x = true := fun x hx => starts_in v x (List.mem_filter.mp hx).1
end Bfb
end
section
namespace Bfb
/-! rows from single steps -/
def inUT : List Nat → (Nat → Prop) → Nat → Prop
  | [], T, n => T n
  | s :: u, T, n => n = 0 ∨ ∃ m, n = s + m ∧ inUT u T m
def Mul (L n : Nat) : Prop := n % L = 0
theorem smul (j s : Nat) : (j + 1) * s = j * s + s := Nat.succ_mul j s
theorem inUT_append : ∀ (u v : List Nat) (T : Nat → Prop) (n : Nat), inUT (u ++ v) T n ↔ inUT u (inUT v T) n
  | [], _, _, _ => Iff.rfl
  | s :: u, v, T, n => by
    show (n = 0 ∨ ∃ m, n = s + m ∧ inUT (u ++ v) T m) ↔ (n = 0 ∨ ∃ m, n = s + m ∧ inUT u (inUT v T) m)
    simp only [inUT_append u v T]
theorem inUT_congr : ∀ (u : List Nat) {T T' : Nat → Prop} (_ : ∀ n, T n ↔ T' n) (n : Nat), inUT u T n ↔ inUT u T' n
  | [], _, _, h, n => h n
  | s :: u, T, T', h, n => by
    show (n = 0 ∨ ∃ m, n = s + m ∧ inUT u T m) ↔ (n = 0 ∨ ∃ m, n = s + m ∧ inUT u T' m)
    simp only [inUT_congr u h]
theorem inUT_rep (s : Nat) : ∀ (t : Nat) {T : Nat → Prop} (_ : T 0) (n : Nat), inUT (List.replicate t s) T n ↔ Pre s t T n
  | 0, T, h0, n => by
    show T n ↔ _
    constructor
    · intro h; exact .inr ⟨n, by omega, h⟩
    · rintro (⟨j, hj, _⟩ | ⟨m, rfl, hm⟩)
      · omega
      · rw [Nat.zero_mul, Nat.zero_add]; exact hm
  | t + 1, T, h0, n => by
    show (n = 0 ∨ ∃ m, n = s + m ∧ inUT (List.replicate t s) T m) ↔ _
    simp only [inUT_rep s t h0]
    constructor
    · rintro (rfl | ⟨m, rfl, (⟨j, hj, rfl⟩ | ⟨m', rfl, hm⟩)⟩)
      · exact .inl ⟨0, by omega, by omega⟩
      · exact .inl ⟨j + 1, by omega, by rw [Nat.succ_mul]; omega⟩
      · exact .inr ⟨m', by rw [Nat.succ_mul]; omega, hm⟩
    · rintro (⟨j, hj, rfl⟩ | ⟨m, rfl, hm⟩)
      · cases j with
        | zero => exact .inl (by omega)
        | succ j => exact .inr ⟨j * s, by rw [Nat.succ_mul]; omega, .inl ⟨j, by omega, rfl⟩⟩
      · exact .inr ⟨t * s + m, by rw [Nat.succ_mul]; omega, .inr ⟨m, rfl, hm⟩⟩
def rowU : List Nat → Nat → Runs
  | [], _ => []
  | s :: u, L => if s ≤ L then [] else match rowU u L with
    | (s', t) :: r => if s' = s then (s, t + 1) :: r else (s, 1) :: (s', t) :: r
    | [] => [(s, 1)]
def units (r : Runs) : List Nat := r.flatMap fun p => List.replicate p.2 p.1
def Strict : Runs → Prop
  | [] => True
  | (s, t) :: r => 0 < t ∧ (∀ p, r.head? = some p → p.1 ≠ s) ∧ Strict r
theorem valid_strict : ∀ {r : Runs} {e : Nat}, Valid r e → Strict r
  | [], _, _ => trivial
  | (s, t) :: r, e, v => by
    refine ⟨v.1, fun p hp => ?_, valid_strict v.2.2.2.2⟩
    cases r with
    | nil => simp at hp
    | cons q r =>
      have : q = p := by simpa using hp
      subst this
      have h := v.2.1
      exact Nat.ne_of_lt h
theorem fstep_ge : ∀ {r : Runs} {e : Nat}, Valid r e → e ≤ fstep r e
  | [], _, _ => Nat.le_refl _
  | (s, t) :: r, e, v => Nat.le_trans (fstep_ge v.2.2.2.2) (Nat.le_of_lt v.2.1)
/-- single steps, none greater than the one before, none less than L -/
def Desc : List Nat → Nat → Prop
  | [], _ => True
  | s :: u, L => L ≤ s ∧ (∀ x ∈ u, x ≤ s) ∧ Desc u L
structure URow (u : List Nat) (L : Nat) (I : Nat → Prop) : Prop where
  row : IsRow (rowU u L) L I
  un : units (rowU u L) = u.filter fun x => decide (L < x)
  desc : Desc u L
theorem urow : ∀ (u : List Nat) {L : Nat} {I : Nat → Prop}, 0 < L → (∀ x ∈ u, 0 < x) → Closed I → (∀ n, I n ↔ inUT u (Mul L) n) → URow u L I
  | [], L, I, hL, _, c, h => ⟨⟨trivial, fun n => by rw [h n]; simp [rowU, within, inUT, Mul]⟩, rfl, trivial⟩
  | s :: u, L, I, hL, hu, c, h => by
    have hs : 0 < s := hu s (by simp)
    have h0 : ∀ (u : List Nat), inUT u (Mul L) 0 := fun u => by
      cases u with
      | nil => exact Nat.zero_mod L
      | cons => exact .inl rfl
    have hIs : I s := (h s).mpr (.inr ⟨0, rfl, h0 u⟩)
    have c' : Closed (fun m => I (s + m)) := c.shift hIs
    have e : ∀ m, I (s + m) ↔ inUT u (Mul L) m := fun m => by
      rw [h]
      constructor
      · rintro (q | ⟨m', q, hm⟩)
        · omega
        · rw [show m = m' by omega]; exact hm
      · intro q; exact .inr ⟨m, rfl, q⟩
    have ih := urow u hL (fun x hx => hu x (List.mem_cons_of_mem _ hx)) c' e
    have hI2 : I (s + s) := c.add hIs hIs
    have hf := fstep_least ih.row.ok ((ih.row.mem s).mpr hI2) hs
    have hge := fstep_ge ih.row.ok
    have hLs : L ≤ s := Nat.le_trans hge hf.1
    have hdesc : Desc (s :: u) L := by
      refine ⟨hLs, ?_, ih.desc⟩
      cases u with
      | nil => intro x hx; simp at hx
      | cons s2 u2 =>
        -- s2 is the least number of the set behind s
        have h2 : s2 ≤ s := by
          rcases (e s).mp hI2 with q | ⟨m, q, _⟩
          · omega
          · omega
        intro x hx
        rcases List.mem_cons.mp hx with rfl | hx
        · exact h2
        · exact Nat.le_trans (ih.desc.2.1 x hx) h2
    show URow (s :: u) L I
    by_cases hsL : s ≤ L
    · have e1 : s = L := Nat.le_antisymm hsL hLs
      have e2 : fstep (rowU u L) L = L := by omega
      have er : rowU u L = [] := by
        cases q : rowU u L with
        | nil => rfl
        | cons p r =>
          obtain ⟨s', t'⟩ := p
          have v := ih.row.ok
          rw [q] at v e2
          have a1 : s' = L := e2
          have a2 := v.2.1
          have a3 := fstep_ge v.2.2.2.2
          omega
      have hr : rowU (s :: u) L = [] := by
        show (if s ≤ L then [] else _) = []
        rw [if_pos hsL]
      refine ⟨hr ▸ (⟨trivial, fun n => ?_⟩ : IsRow [] L I), ?_, hdesc⟩
      · have m1 := ih.row.mem
        rw [er] at m1
        simp only [within, decide_eq_true_eq] at m1 ⊢
        constructor
        · intro hn
          by_cases hz : n = 0
          · subst hz; exact c.zero
          · have hle : s ≤ n := by
              rw [e1]
              exact Nat.le_of_dvd (Nat.pos_of_ne_zero hz) (Nat.dvd_of_mod_eq_zero hn)
            have := (m1 (n - s)).mp (by rw [e1]; rw [e1] at hle; rw [← Nat.mod_eq_sub_mod hle]; exact hn)
            rwa [show s + (n - s) = n by omega] at this
        · intro hn
          rcases (h n).mp hn with rfl | ⟨m, rfl, hm⟩
          · simp
          · have := (m1 m).mpr ((e m).mpr hm)
            rw [e1, Nat.add_mod_left]; exact this
      · rw [hr]
        have hall : ∀ x ∈ s :: u, ¬ L < x := fun x hx => by
          rcases List.mem_cons.mp hx with rfl | hx
          · omega
          · have := hdesc.2.1 x hx; omega
        rw [List.filter_eq_nil_iff.mpr (fun x hx => by simpa using hall x hx)]
        rfl
    · have hsL' : L < s := Nat.lt_of_not_le hsL
      have key : ∀ (r : Runs), Valid r L → (∀ n, within r L n = true ↔ Pre s 1 (fun m => within (rowU u L) L m = true) n) → IsRow r L I := fun r v k => ⟨v, fun n => by
        rw [k n]
        constructor
        · rintro (⟨j, hj, rfl⟩ | ⟨m, rfl, hm⟩)
          · have : j = 0 := by omega
            subst this; rw [Nat.zero_mul]; exact c.zero
          · rw [Nat.one_mul]; exact (ih.row.mem m).mp hm
        · intro hn
          rcases (h n).mp hn with rfl | ⟨m, rfl, hm⟩
          · exact .inl ⟨0, by omega, by omega⟩
          · exact .inr ⟨m, by omega, (ih.row.mem m).mpr ((e m).mpr hm)⟩⟩
      have hflt : (s :: u).filter (fun x => decide (L < x)) = s :: u.filter (fun x => decide (L < x)) := List.filter_cons_of_pos (by simpa using hsL')
      have hr : rowU (s :: u) L = match rowU u L with
          | (s', t) :: r => if s' = s then (s, t + 1) :: r else (s, 1) :: (s', t) :: r
          | [] => [(s, 1)] := by
        show (if s ≤ L then [] else _) = _
        rw [if_neg hsL]
      have hun := ih.un
      have hin := (ih.row.mem s).mpr hI2
      have v := ih.row.ok
      cases q : rowU u L with
      | nil =>
        rw [q] at hr hun hin v
        rw [q] at key
        refine ⟨?_, ?_, hdesc⟩
        · rw [hr]
          exact key _ ⟨Nat.one_pos, hsL', hL, hin, trivial⟩ (fun n => within_cons hs)
        · rw [hr, hflt, ← hun]; rfl
      | cons p r =>
        obtain ⟨s', t'⟩ := p
        rw [q] at hr hun hin v hf
        rw [q] at key
        have hr : rowU (s :: u) L = if s' = s then (s, t' + 1) :: r else (s, 1) :: (s', t') :: r := hr
        by_cases es : s' = s
        · subst es
          rw [if_pos rfl] at hr
          refine ⟨?_, ?_, hdesc⟩
          · rw [hr]
            refine key _ ⟨Nat.succ_pos _, v.2⟩ (fun n => ?_)
            rw [within_cons hs]
            unfold Pre
            simp only [within_cons (t := t') (r := r) (e := L) hs]
            unfold Pre
            constructor
            · rintro (⟨j, hj, rfl⟩ | ⟨m, rfl, hm⟩)
              · cases j with
                | zero => exact .inl ⟨0, by omega, rfl⟩
                | succ j =>
                  have q1 := smul j s'
                  exact .inr ⟨j * s', by omega, .inl ⟨j, by omega, rfl⟩⟩
              · have q1 := smul t' s'
                exact .inr ⟨t' * s' + m, by omega, .inr ⟨m, rfl, hm⟩⟩
            · rintro (⟨j, hj, rfl⟩ | ⟨m, rfl, (⟨j, hj, rfl⟩ | ⟨m', rfl, hm⟩)⟩)
              · exact .inl ⟨j, by omega, rfl⟩
              · have q1 := smul j s'
                exact .inl ⟨j + 1, by omega, by omega⟩
              · have q1 := smul t' s'
                exact .inr ⟨m', by omega, hm⟩
          · rw [hr, hflt, ← hun]
            show units ((s', t' + 1) :: r) = s' :: units ((s', t') :: r)
            simp only [units, List.flatMap_cons]
            rw [List.replicate_succ]; rfl
        · rw [if_neg es] at hr
          have hlt : s' < s := Nat.lt_of_le_of_ne hf.1 es
          refine ⟨?_, ?_, hdesc⟩
          · rw [hr]
            exact key _ ⟨Nat.one_pos, hlt, hf.2, hin, v⟩ (fun n => within_cons hs)
          · rw [hr, hflt, ← hun]; rfl
/-! ### runs pushed at the end -/
def pushR (acc : Runs) (s t : Nat) : Runs := match acc.getLast? with
  | some (s0, t0) => if s0 = s then acc.dropLast ++ [(s0, t0 + t)] else acc ++ [(s, t)]
  | none => [(s, t)]
theorem strict_snoc : ∀ {acc : Runs} {s t : Nat}, Strict acc → 0 < t → (∀ p, acc.getLast? = some p → p.1 ≠ s) → Strict (acc ++ [(s, t)])
  | [], s, t, _, ht, _ => ⟨ht, fun p hp => by simp at hp, trivial⟩
  | (a, b) :: acc, s, t, h, ht, hl => by
    refine ⟨h.1, fun p hp => ?_, strict_snoc h.2.2 ht fun p hp => ?_⟩
    · cases acc with
      | nil =>
        have : (s, t) = p := by simpa using hp
        subst this
        have := hl (a, b) (by simp)
        exact fun z => this z.symm
      | cons q acc => exact h.2.1 p (by simpa using hp)
    · cases acc with
      | nil => simp at hp
      | cons q acc => exact hl p (by rw [List.getLast?_cons_cons]; exact hp)
theorem strict_last : ∀ {acc : Runs} {s t t' : Nat}, Strict (acc ++ [(s, t)]) → 0 < t' → Strict (acc ++ [(s, t')])
  | [], s, t, t', h, ht => ⟨ht, fun p hp => by simp at hp, trivial⟩
  | (a, b) :: acc, s, t, t', h, ht => by
    refine ⟨h.1, fun p hp => ?_, strict_last h.2.2 ht⟩
    cases acc with
    | nil =>
      have : (s, t') = p := by simpa using hp
      subst this
      exact h.2.1 (s, t) (by simp)
    | cons q acc => exact h.2.1 p (by simpa using hp)
theorem units_append (a b : Runs) : units (a ++ b) = units a ++ units b := by simp [units]
theorem last_of {α : Type} {acc : List α} {p : α} (h : acc.getLast? = some p) : acc.dropLast ++ [p] = acc := by
  cases acc with
  | nil => simp at h
  | cons a acc =>
    rw [List.getLast?_eq_some_getLast (List.cons_ne_nil a acc)] at h
    rw [← Option.some.inj h]
    exact List.dropLast_concat_getLast _
theorem pushR_ok {acc : Runs} {s t : Nat} (h : Strict acc) (ht : 0 < t) : Strict (pushR acc s t) ∧ units (pushR acc s t) = units acc ++ List.replicate t s := by
  unfold pushR
  cases q : acc.getLast? with
  | none =>
    have e : acc = [] := List.getLast?_eq_none_iff.mp q
    subst e
    exact ⟨⟨ht, fun p hp => by simp at hp, trivial⟩, by simp [units]⟩
  | some p =>
    obtain ⟨s0, t0⟩ := p
    have e : acc.dropLast ++ [(s0, t0)] = acc := last_of q
    show Strict (if s0 = s then _ else _) ∧ units (if s0 = s then _ else _) = _
    by_cases es : s0 = s
    · rw [if_pos es]
      rw [← e] at h
      refine ⟨strict_last h (by omega), ?_⟩
      have : units acc = units acc.dropLast ++ List.replicate t0 s0 := by
        conv => lhs; rw [← e]
        rw [units_append]; simp [units]
      rw [this, units_append, es]
      simp [units, List.append_assoc, List.replicate_append_replicate]
    · rw [if_neg es]
      refine ⟨strict_snoc h ht fun p hp => ?_, by rw [units_append]; simp [units]⟩
      rw [q] at hp
      cases hp; exact es
theorem rep_split {s : Nat} : ∀ {t t' : Nat} {x y : List Nat}, List.replicate t s ++ x = List.replicate t' s ++ y → (∀ z, x.head? = some z → z ≠ s) → (∀ z, y.head? = some z → z ≠ s) → t = t' ∧ x = y
  | 0, 0, _, _, h, _, _ => ⟨rfl, by simpa using h⟩
  | 0, t' + 1, x, y, h, hx, _ => by
    exfalso
    rw [List.replicate_zero, List.nil_append, List.replicate_succ] at h
    exact hx s (by rw [h]; rfl) rfl
  | t + 1, 0, x, y, h, _, hy => by
    exfalso
    rw [List.replicate_zero, List.nil_append, List.replicate_succ] at h
    exact hy s (by rw [← h]; rfl) rfl
  | t + 1, t' + 1, x, y, h, hx, hy => by
    rw [List.replicate_succ, List.replicate_succ] at h
    have := rep_split (List.cons.inj h).2 hx hy
    exact ⟨by rw [this.1], this.2⟩
theorem units_head {r : Runs} (h : Strict r) : ∀ z, (units r).head? = some z → ∃ p, r.head? = some p ∧ p.1 = z := by
  intro z hz
  cases r with
  | nil => simp [units] at hz
  | cons p r =>
    obtain ⟨s, t⟩ := p
    refine ⟨(s, t), rfl, ?_⟩
    have ht := h.1
    cases t with
    | zero => omega
    | succ t => simpa [units, List.replicate_succ] using hz
theorem strict_units : ∀ {r r' : Runs}, Strict r → Strict r' → units r = units r' → r = r'
  | [], [], _, _, _ => rfl
  | [], (s, t) :: r', _, h', e => by
    have ht := h'.1
    cases t with
    | zero => omega
    | succ t => simp [units, List.replicate_succ] at e
  | (s, t) :: r, [], h, _, e => by
    have ht := h.1
    cases t with
    | zero => omega
    | succ t => simp [units, List.replicate_succ] at e
  | (s, t) :: r, (s', t') :: r', h, h', e => by
    have hs : s = s' := by
      have a := h.1
      have b := h'.1
      cases t with
      | zero => omega
      | succ t =>
        cases t' with
        | zero => omega
        | succ t' =>
          simp only [units, List.flatMap_cons, List.replicate_succ, List.cons_append] at e
          exact (List.cons.inj e).1
    subst hs
    have e : List.replicate t s ++ units r = List.replicate t' s ++ units r' := by simpa [units] using e
    have := rep_split e (fun z hz => by
      obtain ⟨p, hp, rfl⟩ := units_head h.2.2 z hz
      exact h.2.1 p hp) (fun z hz => by
      obtain ⟨p, hp, rfl⟩ := units_head h'.2.2 z hz
      exact h'.2.1 p hp)
    rw [this.1, strict_units h.2.2 h'.2.2 this.2]
theorem desc_append : ∀ {u v : List Nat} {L : Nat}, Desc (u ++ v) L → Desc u L ∧ ∀ x ∈ u, ∀ y ∈ v, y ≤ x
  | [], _, _, _ => ⟨trivial, fun x hx => by simp at hx⟩
  | s :: u, v, L, h => by
    have := desc_append h.2.2
    refine ⟨⟨h.1, fun x hx => h.2.1 x (List.mem_append_left _ hx), this.1⟩, fun x hx y hy => ?_⟩
    rcases List.mem_cons.mp hx with rfl | hx
    · exact h.2.1 y (List.mem_append_right _ hy)
    · exact this.2 x hx y hy
/-- the last run goes if its step is the end -/
def popEnd (acc : Runs) (L : Nat) : Runs := match acc.getLast? with
  | some (s, _) => if s = L then acc.dropLast else acc
  | none => acc
theorem strict_dropLast {acc : Runs} {s t : Nat} : Strict (acc ++ [(s, t)]) → Strict acc := by
  induction acc with
  | nil => intro _; trivial
  | cons p acc ih =>
    intro h
    obtain ⟨a, b⟩ := p
    refine ⟨h.1, fun p hp => h.2.1 p ?_, ih h.2.2⟩
    cases acc with
    | nil => simp at hp
    | cons q acc => simpa using hp
theorem strict_last_ne : ∀ {acc : Runs} {s t : Nat}, Strict (acc ++ [(s, t)]) → ∀ p, acc.getLast? = some p → p.1 ≠ s
  | [], _, _, _, p, hp => by simp at hp
  | [(a, b)], s, t, h, p, hp => by
    have : (a, b) = p := by simpa using hp
    subst this
    have := h.2.1 (s, t) (by simp)
    exact fun z => this z.symm
  | (a, b) :: q :: acc, s, t, h, p, hp => strict_last_ne (acc := q :: acc) h.2.2 p (by rw [List.getLast?_cons_cons] at hp; exact hp)
theorem units_last {acc : Runs} {s t : Nat} (h : Strict (acc ++ [(s, t)])) : s ∈ units (acc ++ [(s, t)]) := by
  rw [units_append]
  refine List.mem_append_right _ ?_
  have ht : 0 < t := by
    induction acc with
    | nil => exact h.1
    | cons p acc ih => exact ih h.2.2
  simp [units]; omega
theorem popEnd_ok {acc : Runs} {L : Nat} (h : Strict acc) (d : Desc (units acc) L) : Strict (popEnd acc L) ∧ units (popEnd acc L) = (units acc).filter fun x => decide (L < x) := by
  have all : ∀ {u : List Nat}, Desc u L → ∀ x ∈ u, L ≤ x := by
    intro u
    induction u with
    | nil => intro _ x hx; simp at hx
    | cons s u ih =>
      intro d x hx
      rcases List.mem_cons.mp hx with rfl | hx
      · exact d.1
      · exact ih d.2.2 x hx
  unfold popEnd
  cases q : acc.getLast? with
  | none =>
    have e : acc = [] := List.getLast?_eq_none_iff.mp q
    subst e
    exact ⟨trivial, rfl⟩
  | some p =>
    obtain ⟨s0, t0⟩ := p
    have e : acc.dropLast ++ [(s0, t0)] = acc := last_of q
    rw [← e] at h d
    have eu : units acc = units acc.dropLast ++ List.replicate t0 s0 := by
      conv => lhs; rw [← e]
      rw [units_append]; simp [units]
    have du := desc_append (u := units acc.dropLast) (v := List.replicate t0 s0) (L := L) (by
      rw [← eu, ← e]; exact d)
    show Strict (if s0 = L then _ else _) ∧ units (if s0 = L then _ else _) = _
    by_cases es : s0 = L
    · rw [if_pos es]
      refine ⟨strict_dropLast h, ?_⟩
      rw [eu, List.filter_append]
      have h1 : (List.replicate t0 s0).filter (fun x => decide (L < x)) = [] := List.filter_eq_nil_iff.mpr fun x hx => by
        have := (List.mem_replicate.mp hx).2
        simp; omega
      have h2 : (units acc.dropLast).filter (fun x => decide (L < x)) = units acc.dropLast := by
        refine List.filter_eq_self.mpr fun x hx => ?_
        -- the last step ahead of the last run is greater
        have hx1 := all du.1 x hx
        have : x ≠ L := by
          intro z
          -- x = L is the least, so the last of acc.dropLast is L too
          cases q2 : acc.dropLast.getLast? with
          | none =>
            have e2 : acc.dropLast = [] := List.getLast?_eq_none_iff.mp q2
            rw [e2] at hx; simp [units] at hx
          | some p2 =>
            obtain ⟨s2, t2⟩ := p2
            have ne := strict_last_ne h _ q2
            have e2 : acc.dropLast.dropLast ++ [(s2, t2)] = acc.dropLast := last_of q2
            have hst := strict_dropLast h
            rw [← e2] at hst
            have m2 := units_last hst
            have d2 := du.1
            have eu2 : units acc.dropLast = units acc.dropLast.dropLast ++ List.replicate t2 s2 := by
              conv => lhs; rw [← e2]
              rw [units_append]; simp [units]
            have d3 := desc_append (u := units acc.dropLast.dropLast) (v := List.replicate t2 s2) (L := L) (by rw [← eu2]; exact d2)
            have hs2 : L ≤ s2 := all d2 s2 (by rw [← e2]; exact m2)
            rw [eu2] at hx
            rcases List.mem_append.mp hx with hx | hx
            · have ht2 : s2 ∈ List.replicate t2 s2 := by
                have : 0 < t2 := by
                  cases t2 with
                  | zero =>
                    exfalso
                    have : ∀ {a : Runs}, Strict (a ++ [(s2, 0)]) → False := by
                      intro a
                      induction a with
                      | nil => intro h; exact absurd h.1 (Nat.lt_irrefl _)
                      | cons p a ih => intro h; exact ih h.2.2
                    exact this hst
                  | succ n => omega
                exact List.mem_replicate.mpr ⟨by omega, rfl⟩
              have := d3.2 x hx s2 ht2
              have : s2 = s0 := by omega
              exact ne this
            · have := (List.mem_replicate.mp hx).2
              exact ne (show s2 = s0 by omega)
        simp; omega
      rw [h1, h2, List.append_nil]
    · rw [if_neg es]
      rw [e] at h d
      refine ⟨h, ?_⟩
      symm
      refine List.filter_eq_self.mpr fun x hx => ?_
      have hm : s0 ∈ units acc := by
        have := units_last (acc := acc.dropLast) (s := s0) (t := t0) (by rw [e]; exact h)
        rwa [e] at this
      have hs0 : L < s0 := Nat.lt_of_le_of_ne (all d s0 hm) (fun z => es z.symm)
      rw [eu] at hx
      rcases List.mem_append.mp hx with hx | hx
      · have hm2 : s0 ∈ List.replicate t0 s0 := by
          rw [eu] at hm
          by_cases ht : t0 = 0
          · exfalso
            subst ht
            have : ∀ {a : Runs}, Strict (a ++ [(s0, 0)]) → False := by
              intro a
              induction a with
              | nil => intro h; exact absurd h.1 (Nat.lt_irrefl _)
              | cons p a ih => intro h; exact ih h.2.2
            exact this (by rw [e]; exact h)
          · exact List.mem_replicate.mpr ⟨ht, rfl⟩
        have := du.2 x hx s0 hm2
        simp; omega
      · have := (List.mem_replicate.mp hx).2
        simp; omega
/-- the two ways to the same row -/
theorem row_of_units {acc : Runs} {L : Nat} {I : Nat → Prop} (hL : 0 < L) (hs : Strict acc) (hu : ∀ x ∈ units acc, 0 < x) (c : Closed I) (h : ∀ n, I n ↔ inUT (units acc) (Mul L) n) : IsRow (popEnd acc L) L I := by
  have U := urow (units acc) hL hu c h
  have P := popEnd_ok hs U.desc
  have e : popEnd acc L = rowU (units acc) L := strict_units P.1 (valid_strict U.row.ok) (P.2.trans U.un.symm)
  rw [e]; exact U.row
theorem row_of_steps {u : List Nat} {acc : Runs} {L : Nat} {I : Nat → Prop} (hL : 0 < L) (hs : Strict acc) (ha : units acc = u.filter fun x => decide (L < x)) (hu : ∀ x ∈ u, 0 < x) (c : Closed I) (h : ∀ n, I n ↔ inUT u (Mul L) n) : IsRow acc L I := by
  have U := urow u hL hu c h
  have e : acc = rowU u L := strict_units hs (valid_strict U.row.ok) (ha.trans U.un.symm)
  rw [e]; exact U.row
end Bfb
end
section
namespace Bfb
/-! what is in both of two sets: the program's way -/
def behindR : Runs → Nat → Runs
  | [], _ => []
  | (s, t) :: r, c => if c < s * t then (s, t - c / s) :: r else behindR r (c - s * t)
theorem behindR_c (s t : Nat) (r : Runs) (c : Nat) : behindR ((s, t) :: r) c = if c < s * t then (s, t - c / s) :: r else behindR r (c - s * t) := rfl
theorem behindR_ok : ∀ {r : Runs} {e c : Nat}, Valid r e → within r e c = true → Valid (behindR r c) e ∧ ∀ m, within (behindR r c) e m = true ↔ within r e (c + m) = true
  | [], e, c, _, h => by
    refine ⟨trivial, fun m => ?_⟩
    simp only [within, behindR, decide_eq_true_eq] at h ⊢
    have hd := Nat.dvd_of_mod_eq_zero h
    constructor
    · intro q; exact Nat.mod_eq_zero_of_dvd (Nat.dvd_add hd (Nat.dvd_of_mod_eq_zero q))
    · intro q; exact Nat.mod_eq_zero_of_dvd ((Nat.dvd_add_right hd).mp (Nat.dvd_of_mod_eq_zero q))
  | (s, t) :: r, e, c, v, h => by
    have hs := fstep_pos_of_valid v
    rw [behindR_c]
    by_cases hc : c < s * t
    · rw [if_pos hc]
      rw [within_c, if_pos hc] at h
      have hd := Nat.dvd_of_mod_eq_zero (of_decide_eq_true h)
      obtain ⟨q, rfl⟩ := hd
      have hq : q < t := Nat.lt_of_mul_lt_mul_left hc
      rw [Nat.mul_div_cancel_left _ hs]
      refine ⟨⟨by omega, v.2⟩, fun m => ?_⟩
      rw [within_cons hs, within_cons hs]
      have e1 : t * s = s * q + (t - q) * s := by
        rw [Nat.sub_mul, Nat.mul_comm s q]
        have := Nat.mul_le_mul_right s (Nat.le_of_lt hq); omega
      constructor
      · rintro (⟨j, hj, rfl⟩ | ⟨m', rfl, hm⟩)
        · exact .inl ⟨q + j, by omega, by rw [Nat.add_mul, Nat.mul_comm s q]⟩
        · exact .inr ⟨m', by omega, hm⟩
      · rintro (⟨j, hj, hh⟩ | ⟨m', hh, hm⟩)
        · refine .inl ⟨j - q, by omega, ?_⟩
          rw [Nat.sub_mul, Nat.mul_comm q s]; omega
        · exact .inr ⟨m', by omega, hm⟩
    · rw [if_neg hc]
      rw [within_c, if_neg hc] at h
      have ih := behindR_ok v.2.2.2.2 h
      refine ⟨ih.1, fun m => ?_⟩
      rw [ih.2 m, within_c, if_neg (by omega), show c + m - s * t = c - s * t + m by omega]
theorem behindR_n : ∀ {r : Runs} {e c : Nat}, Valid r e → within r e c = true → 0 < c → r ≠ [] → nsteps (behindR r c) < nsteps r
  | [], _, _, _, _, _, h => absurd rfl h
  | (s, t) :: r, e, c, v, h, hc, _ => by
    have hs := fstep_pos_of_valid v
    rw [behindR_c]
    have ht := v.1
    split
    · rename_i hlt
      rw [within_c, if_pos hlt] at h
      obtain ⟨q, rfl⟩ := Nat.dvd_of_mod_eq_zero (of_decide_eq_true h)
      rw [Nat.mul_div_cancel_left _ hs]
      have : 0 < q := Nat.pos_of_ne_zero fun z => by subst z; simp at hc
      show t - q + nsteps r < t + nsteps r
      omega
    · have le : ∀ (r : Runs) (c : Nat), nsteps (behindR r c) ≤ nsteps r := by
        intro r
        induction r with
        | nil => intro c; exact Nat.le_refl _
        | cons p r ih =>
          intro c
          obtain ⟨a, b⟩ := p
          rw [behindR_c]
          split
          · show b - c / a + nsteps r ≤ b + nsteps r
            exact Nat.add_le_add_right (Nat.sub_le _ _) _
          · have := ih (c - a * b)
            show _ ≤ b + nsteps r; omega
      have := le r (c - s * t)
      show _ < t + nsteps r
      omega
theorem behindR_le : ∀ (r : Runs) (c : Nat), nsteps (behindR r c) ≤ nsteps r
  | [], _ => Nat.le_refl _
  | (a, b) :: r, c => by
    rw [behindR_c]
    split
    · show b - c / a + nsteps r ≤ b + nsteps r
      exact Nat.add_le_add_right (Nat.sub_le _ _) _
    · have := behindR_le r (c - a * b)
      show _ ≤ b + nsteps r; omega
theorem behindR_far : ∀ {r : Runs} {e c : Nat}, Valid r e → far (behindR r c) ≤ far r
  | [], _, _, _ => Nat.le_refl _
  | (s, t) :: r, e, c, v => by
    rw [behindR_c]
    split
    · show s * (t - c / s) + far r ≤ s * t + far r
      have := Nat.mul_le_mul_left s (Nat.sub_le t (c / s)); omega
    · have := behindR_far (c := c - s * t) v.2.2.2.2
      show _ ≤ s * t + far r; omega
/-! ### the least number that two rows of steps meet at -/
structure Meet (b s o j x : Int) : Prop where
  above : max b o < x
  one : s ∣ x - b
  two : j ∣ x - o
  least : ∀ n, max b o < n → s ∣ n - b → j ∣ n - o → x ≤ n
/-- the state of Euclid's way -/
structure Euc (a M rest last times others : Int) : Prop where
  r0 : 0 ≤ rest
  lp : 0 < last
  rl : M ∣ times * a - rest
  ll : M ∣ others * a - last
  gcd : ∀ d : Int, d ∣ rest → d ∣ last → d ∣ a ∧ d ∣ M
theorem euc_start {a M : Int} (ha : 0 ≤ a) (hM : 0 < M) : Euc a M a M 1 0 :=
  ⟨ha, hM, by rw [Int.one_mul, Int.sub_self]; exact Int.dvd_zero _, by rw [Int.zero_mul, Int.zero_sub]; exact Int.dvd_neg.mpr (Int.dvd_refl _), fun d h1 h2 => ⟨h1, h2⟩⟩
theorem euc_step {a M rest last times others : Int} (h : Euc a M rest last times others) (hr : rest ≠ 0) :
    Euc a M (last - last / rest * rest) rest (others - last / rest * times) times ∧ last - last / rest * rest < rest := by
  have hp : 0 < rest := by have := h.r0; omega
  have e : last - last / rest * rest = last % rest := by
    have := Int.mul_ediv_add_emod last rest; rw [Int.mul_comm] at this; omega
  have m0 := Int.emod_nonneg last hr
  have m1 := Int.emod_lt_of_pos last hp
  refine ⟨⟨by rw [e]; exact m0, hp, ?_, h.rl, fun d h1 h2 => ?_⟩, by rw [e]; exact m1⟩
  · have : (others - last / rest * times) * a - (last - last / rest * rest) = (others * a - last) - last / rest * (times * a - rest) := by
      rw [Int.sub_mul, Int.mul_sub, Int.mul_assoc]; omega
    rw [this]
    exact Int.dvd_sub h.ll (Int.dvd_mul_of_dvd_right h.rl)
  · refine h.gcd d h2 ?_
    have : last = (last - last / rest * rest) + last / rest * rest := by omega
    rw [this]
    exact Int.dvd_add h1 (Int.dvd_mul_of_dvd_right h2)
theorem euc_end {a M last times others : Int} (h : Euc a M 0 last times others) (hg : ∀ d : Int, d ∣ a → d ∣ M → d ∣ 1) : M ∣ others * a - 1 := by
  have h1 := h.gcd last (Int.dvd_zero _) (Int.dvd_refl _)
  have h2 := hg last h1.1 h1.2
  have h3 := Int.le_of_dvd (by decide) h2
  have h4 := h.lp
  have : last = 1 := by omega
  have := h.ll
  rwa [‹last = 1›] at this
theorem meet_none {b s o j w : Int} (hs : w ∣ s) (hj : w ∣ j) (h : ¬ w ∣ o - b) (n : Int) : ¬ (s ∣ n - b ∧ j ∣ n - o) := fun ⟨h1, h2⟩ => h (by
  have h3 := Int.dvd_sub (Int.dvd_trans hs h1) (Int.dvd_trans hj h2)
  rwa [show n - b - (n - o) = o - b by omega] at h3)
/-- the number that the program reckons -/
theorem meet_some {b s o j w M m y inv : Int} (hw : 0 < w) (hM : 0 < M) (hs : s = w * (s / w)) (hj : j = w * M) (hd : w ∣ o - b) (hinv : M ∣ inv * (s / w) - 1)
    (hy : y = b + s * (((o - b) / w * inv) % M)) (hmp : 0 < m) (hms : s ∣ m) (hmj : j ∣ m) (hml : ∀ d, s ∣ d → j ∣ d → m ∣ d) :
    Meet b s o j (y + ((max b o - y) / m + 1) * m) := by
  have y1 : s ∣ y - b := by rw [hy]; exact ⟨((o - b) / w * inv) % M, by omega⟩
  have y2 : j ∣ y - o := by
    obtain ⟨q, hq⟩ := hd
    have e1 : (o - b) / w = q := by rw [hq]; exact Int.mul_ediv_cancel_left _ (by omega)
    rw [e1] at hy
    obtain ⟨k, hk⟩ := hinv
    have e2 := Int.mul_ediv_add_emod (q * inv) M
    -- s * ((q * inv) % M) - w * q is a multiple of w * M
    have e3 : y - o = s * ((q * inv) % M) - w * q := by omega
    have e4 : (q * inv) % M = q * inv - M * ((q * inv) / M) := by omega
    rw [e3, e4]
    generalize hA : s / w = A at *
    rw [hs, hj]
    refine ⟨q * k - A * (q * inv / M), ?_⟩
    have e5 : inv * A = M * k + 1 := by omega
    have : w * A * (q * inv - M * (q * inv / M)) - w * q = w * (q * (inv * A)) - w * q - w * M * (A * (q * inv / M)) := by
      rw [Int.mul_sub]
      have x1 : w * A * (q * inv) = w * (q * (inv * A)) := by
        rw [Int.mul_assoc, Int.mul_left_comm A q inv, Int.mul_comm A inv]
      have x2 : w * A * (M * (q * inv / M)) = w * M * (A * (q * inv / M)) := by
        rw [Int.mul_assoc, Int.mul_assoc, Int.mul_left_comm A M]
      rw [x1, x2]; omega
    rw [this, e5, Int.mul_add, Int.mul_one, Int.mul_add, Int.mul_sub]
    have x3 : w * (q * (M * k)) = w * M * (q * k) := by
      rw [Int.mul_assoc, Int.mul_left_comm q M k]
    rw [x3]; omega
  have d0 := Int.mul_ediv_add_emod (max b o - y) m
  have r0 := Int.emod_nonneg (max b o - y) (show m ≠ 0 by omega)
  have r1 := Int.emod_lt_of_pos (max b o - y) hmp
  have ex : ((max b o - y) / m + 1) * m = m * ((max b o - y) / m) + m := by rw [Int.add_mul, Int.one_mul, Int.mul_comm]
  have hm : m ∣ ((max b o - y) / m + 1) * m := ⟨_, Int.mul_comm _ _⟩
  refine ⟨by omega, ?_, ?_, fun n hn h1 h2 => ?_⟩
  · have := Int.dvd_add y1 (Int.dvd_trans hms hm)
    rwa [show y - b + ((max b o - y) / m + 1) * m = y + ((max b o - y) / m + 1) * m - b by omega] at this
  · have := Int.dvd_add y2 (Int.dvd_trans hmj hm)
    rwa [show y - o + ((max b o - y) / m + 1) * m = y + ((max b o - y) / m + 1) * m - o by omega] at this
  · have h3 : m ∣ n - y := hml _ (by
      have := Int.dvd_sub h1 y1
      rwa [show n - b - (y - b) = n - y by omega] at this) (by
      have := Int.dvd_sub h2 y2
      rwa [show n - o - (y - o) = n - y by omega] at this)
    by_cases hlt : y + ((max b o - y) / m + 1) * m ≤ n
    · exact hlt
    · exfalso
      obtain ⟨q, hq⟩ := h3
      have h4 : m * ((max b o - y) / m) < m * q := by omega
      have h5 : (max b o - y) / m < q := Int.lt_of_mul_lt_mul_left h4 (by omega)
      have h6 : m * ((max b o - y) / m + 1) ≤ m * q := Int.mul_le_mul_of_nonneg_left (by omega) (by omega)
      rw [Int.mul_add, Int.mul_one] at h6
      omega
end Bfb
end
section
namespace Bfb
abbrev Piece := Nat × Nat × Option Nat
def pieces : Runs → Nat → Nat → List Piece
  | [], e, b => [(b, e, none)]
  | (s, t) :: r, e, b => (b, s, some (b + s * t)) :: pieces r e (b + s * t)
/-- what is to be known of the i-th piece of a row -/
structure PieceOk (S : Nat → Prop) (l : List Piece) (i : Nat) (b s : Nat) (en : Option Nat) : Prop where
  at_ : l[i]? = some (b, s, en)
  pos : 0 < s
  beg : S b
  mem : ∀ n, b ≤ n → (∀ x, en = some x → n ≤ x) → (S n ↔ s ∣ n - b)
  next : ∀ x, en = some x → b < x ∧ ∃ s' en', l[i + 1]? = some (x, s', en') ∧ ∀ y, en' = some y → x < y
  last : en = none → i + 1 = l.length
theorem pieces_head (r : Runs) (e b : Nat) : ∃ s en rest, pieces r e b = (b, s, en) :: rest := by
  cases r with
  | nil => exact ⟨_, _, _, rfl⟩
  | cons p r => obtain ⟨s, t⟩ := p; exact ⟨_, _, _, rfl⟩
theorem pieces_ok : ∀ {r : Runs} {e b : Nat} {S : Nat → Prop}, Valid r e → 0 < e → (∀ n, S (b + n) ↔ within r e n = true) → ∀ i p, (pieces r e b)[i]? = some p → PieceOk S (pieces r e b) i p.1 p.2.1 p.2.2
  | [], e, b, S, _, he, h, i, p, hp => by
    cases i with
    | succ i => simp [pieces] at hp
    | zero =>
      have : (b, e, none) = p := by simpa [pieces] using hp
      subst this
      refine ⟨rfl, he, by have := (h 0).mpr (by simp [within]); simpa using this, fun n hn _ => ?_, fun x hx => (nomatch hx), fun _ => rfl⟩
      have := h (n - b)
      rw [show b + (n - b) = n by omega] at this
      rw [this]
      simp only [within, decide_eq_true_eq]
      exact ⟨Nat.dvd_of_mod_eq_zero, Nat.mod_eq_zero_of_dvd⟩
  | (s, t) :: r, e, b, S, v, he, h, i, p, hp => by
    have hs := fstep_pos_of_valid v
    have ht := v.1
    have hst : 0 < s * t := Nat.mul_pos hs ht
    cases i with
    | succ i =>
      have hp' : (pieces r e (b + s * t))[i]? = some p := by simpa [pieces] using hp
      have ih := pieces_ok (b := b + s * t) (S := S) v.2.2.2.2 he (fun n => by
        rw [Nat.add_assoc, h, within_c, if_neg (by omega), Nat.add_sub_cancel_left]) i p hp'
      exact ⟨by simpa [pieces] using ih.at_, ih.pos, ih.beg, ih.mem, fun x hx => by simpa [pieces] using ih.next x hx, fun hx => by have := ih.last hx; simp [pieces]; omega⟩
    | zero =>
      have : (b, s, some (b + s * t)) = p := by simpa [pieces] using hp
      subst this
      refine ⟨rfl, hs, by have := (h 0).mpr (by rw [within_c, if_pos hst]; simp); simpa using this, fun n hn hx => ?_, fun x hx => ?_, fun hx => nomatch hx⟩
      · have hn2 := hx _ rfl
        have := h (n - b)
        rw [show b + (n - b) = n by omega] at this
        rw [this, within_c]
        by_cases hlt : n - b < s * t
        · rw [if_pos hlt, decide_eq_true_eq]
          exact ⟨Nat.dvd_of_mod_eq_zero, Nat.mod_eq_zero_of_dvd⟩
        · rw [if_neg hlt]
          have e1 : n - b = s * t := by
            have : n ≤ b + s * t := hn2
            omega
          rw [e1, Nat.sub_self]
          exact ⟨fun _ => ⟨t, rfl⟩, fun _ => (valid_closed v.2.2.2.2).zero⟩
      · cases hx
        refine ⟨by omega, ?_⟩
        show ∃ s' en', (pieces r e (b + s * t))[0]? = _ ∧ _
        cases r with
        | nil => exact ⟨e, none, rfl, fun y hy => nomatch hy⟩
        | cons q r =>
          obtain ⟨s2, t2⟩ := q
          refine ⟨s2, some (b + s * t + s2 * t2), rfl, fun y hy => ?_⟩
          cases hy
          have v2 := v.2.2.2.2
          have := Nat.mul_pos (fstep_pos_of_valid v2) v2.1
          omega
/-- everything in a row is a multiple of its end -/
theorem end_dvd : ∀ {r : Runs} {e : Nat}, Valid r e → ∀ n, within r e n = true → e ∣ n
  | [], e, _, n, h => Nat.dvd_of_mod_eq_zero (of_decide_eq_true h)
  | (s, t) :: r, e, v, n, h => by
    have hs := fstep_pos_of_valid v
    have hes : e ∣ s := end_dvd v.2.2.2.2 s v.2.2.2.1
    rcases (within_cons hs).mp h with ⟨j, _, rfl⟩ | ⟨m, rfl, hm⟩
    · exact Nat.dvd_trans hes ⟨j, Nat.mul_comm _ _⟩
    · exact Nat.dvd_add (Nat.dvd_trans hes ⟨t, Nat.mul_comm _ _⟩) (end_dvd v.2.2.2.2 m hm)
/-- from some number on all multiples of the end -/
theorem far_all : ∀ {r : Runs} {e : Nat}, Valid r e → ∀ n, far r ≤ n → (within r e n = true ↔ n % e = 0)
  | [], e, _, n, _ => by simp [within]
  | (s, t) :: r, e, v, n, h => by
    have h : s * t + far r ≤ n := h
    have hs := fstep_pos_of_valid v
    have hes : e ∣ s := end_dvd v.2.2.2.2 s v.2.2.2.1
    rw [within_c, if_neg (by omega), far_all v.2.2.2.2 (n - s * t) (by omega)]
    have hd : e ∣ s * t := Nat.dvd_trans hes ⟨t, rfl⟩
    constructor
    · intro q
      have := Nat.dvd_add (Nat.dvd_of_mod_eq_zero q) hd
      rw [Nat.sub_add_cancel (by omega)] at this
      exact Nat.mod_eq_zero_of_dvd this
    · intro q
      exact Nat.mod_eq_zero_of_dvd (Nat.dvd_sub (Nat.dvd_of_mod_eq_zero q) hd)
theorem far_in {r : Runs} {e : Nat} (v : Valid r e) : within r e (far r) = true := by
  rw [far_all v _ (Nat.le_refl _)]
  have : ∀ {r : Runs}, Valid r e → e ∣ far r := by
    intro r
    induction r with
    | nil => intro _; exact Nat.dvd_zero _
    | cons p r ih =>
      obtain ⟨s, t⟩ := p
      intro v
      have hes : e ∣ s := end_dvd v.2.2.2.2 s v.2.2.2.1
      exact Nat.dvd_add (Nat.dvd_trans hes ⟨t, rfl⟩) (ih v.2.2.2.2)
  exact Nat.mod_eq_zero_of_dvd (this v)
/-- where the search for the least common number stands -/
structure Seek (S1 S2 : Nat → Prop) (l1 l2 : List Piece) (i k : Nat) (b s : Nat) (en : Option Nat) (o j : Nat) (la : Option Nat) : Prop where
  one : PieceOk S1 l1 i b s en
  two : PieceOk S2 l2 k o j la
  over1 : ∀ x, la = some x → b ≤ x
  over2 : ∀ x, en = some x → o ≤ x
  none_yet : ∀ n, 0 < n → n ≤ max b o → ¬ (S1 n ∧ S2 n)
def Least (S1 S2 : Nat → Prop) (x : Nat) : Prop := 0 < x ∧ S1 x ∧ S2 x ∧ ∀ n, 0 < n → S1 n → S2 n → x ≤ n
def upTo (n : Nat) (en : Option Nat) : Prop := ∀ x, en = some x → n ≤ x
theorem dvd_sub_int {s n b : Nat} (h : b ≤ n) : s ∣ n - b ↔ (s : Int) ∣ (n : Int) - b := by
  rw [← Int.natCast_dvd_natCast, Int.natCast_sub h]
theorem seek_found {S1 S2 : Nat → Prop} {l1 l2 : List Piece} {i k b s : Nat} {en : Option Nat} {o j : Nat} {la : Option Nat} (h : Seek S1 S2 l1 l2 i k b s en o j la) {x : Nat} (m : Meet b s o j x)
    (h1 : upTo x en) (h2 : upTo x la) : Least S1 S2 x := by
  have ha := m.above
  refine ⟨by omega, (h.one.mem x (by omega) h1).mpr ((dvd_sub_int (by omega)).mpr m.one), (h.two.mem x (by omega) h2).mpr ((dvd_sub_int (by omega)).mpr m.two), fun n hn a1 a2 => ?_⟩
  by_cases hle : n ≤ max b o
  · exact absurd ⟨a1, a2⟩ (h.none_yet n hn hle)
  · by_cases hx : n < x
    · have e1 := (h.one.mem n (by omega) fun y hy => by have := h1 y hy; omega).mp a1
      have e2 := (h.two.mem n (by omega) fun y hy => by have := h2 y hy; omega).mp a2
      have := m.least n (by omega) ((dvd_sub_int (by omega)).mp e1) ((dvd_sub_int (by omega)).mp e2)
      omega
    · omega
/-- nothing within the window: the next one -/
theorem seek_none {S1 S2 : Nat → Prop} {l1 l2 : List Piece} {i k b s : Nat} {en : Option Nat} {o j : Nat} {la : Option Nat} (h : Seek S1 S2 l1 l2 i k b s en o j la)
    (hno : (∀ n : Int, ¬ ((s : Int) ∣ n - b ∧ (j : Int) ∣ n - o)) ∨ ∃ x : Nat, Meet b s o j x ∧ ¬ (upTo x en ∧ upTo x la)) {y : Nat} (h1 : upTo y en) (h2 : upTo y la) :
    (en = some y ∨ la = some y) → ∀ n, 0 < n → n ≤ y → ¬ (S1 n ∧ S2 n) := by
  intro hy n hn hny ⟨a1, a2⟩
  by_cases hle : n ≤ max b o
  · exact h.none_yet n hn hle ⟨a1, a2⟩
  · have e1 := (h.one.mem n (by omega) fun x hx => by have := h1 x hx; omega).mp a1
    have e2 := (h.two.mem n (by omega) fun x hx => by have := h2 x hx; omega).mp a2
    have d1 := (dvd_sub_int (show b ≤ n by omega)).mp e1
    have d2 := (dvd_sub_int (show o ≤ n by omega)).mp e2
    rcases hno with hno | ⟨x, m, hno⟩
    · exact hno n ⟨d1, d2⟩
    · have := m.least n (by omega) d1 d2
      exact hno ⟨fun z hz => by have := h1 z hz; omega, fun z hz => by have := h2 z hz; omega⟩
theorem seek_one {S1 S2 : Nat → Prop} {l1 l2 : List Piece} {i k b s : Nat} {o j : Nat} {la : Option Nat} {y : Nat} (h : Seek S1 S2 l1 l2 i k b s (some y) o j la)
    (ok1 : ∀ i p, l1[i]? = some p → PieceOk S1 l1 i p.1 p.2.1 p.2.2)
    (hno : (∀ n : Int, ¬ ((s : Int) ∣ n - b ∧ (j : Int) ∣ n - o)) ∨ ∃ x : Nat, Meet b s o j x ∧ ¬ (upTo x (some y) ∧ upTo x la)) (hla : upTo y la) :
    ∃ s' en', Seek S1 S2 l1 l2 (i + 1) k y s' en' o j la := by
  obtain ⟨hby, s', en', hn, hy⟩ := h.one.next y rfl
  have hoy := h.over2 y rfl
  refine ⟨s', en', ok1 _ _ hn, h.two, hla, fun x hx => by have := hy x hx; omega, ?_⟩
  rw [show max y o = y by omega]
  exact seek_none h hno (fun x hx => by cases hx; exact Nat.le_refl _) hla (.inl rfl)
theorem seek_two {S1 S2 : Nat → Prop} {l1 l2 : List Piece} {i k b s : Nat} {en : Option Nat} {o j : Nat} {y : Nat} (h : Seek S1 S2 l1 l2 i k b s en o j (some y))
    (ok2 : ∀ i p, l2[i]? = some p → PieceOk S2 l2 i p.1 p.2.1 p.2.2)
    (hno : (∀ n : Int, ¬ ((s : Int) ∣ n - b ∧ (j : Int) ∣ n - o)) ∨ ∃ x : Nat, Meet b s o j x ∧ ¬ (upTo x en ∧ upTo x (some y))) (hen : upTo y en) :
    ∃ j' la', Seek S1 S2 l1 l2 i (k + 1) b s en y j' la' := by
  obtain ⟨hoy, j', la', hn, hy⟩ := h.two.next y rfl
  have hby := h.over1 y rfl
  refine ⟨j', la', h.one, ok2 _ _ hn, fun x hx => by have := hy x hx; omega, hen, ?_⟩
  rw [show max b y = y by omega]
  exact seek_none h hno hen (fun x hx => by cases hx; exact Nat.le_refl _) (.inr rfl)
theorem seek_start {S1 S2 : Nat → Prop} {r1 r2 : Runs} {e1 e2 : Nat} (v1 : Valid r1 e1) (v2 : Valid r2 e2) (p1 : 0 < e1) (p2 : 0 < e2) (h1 : ∀ n, S1 n ↔ within r1 e1 n = true) (h2 : ∀ n, S2 n ↔ within r2 e2 n = true) :
    ∃ s en j la, Seek S1 S2 (pieces r1 e1 0) (pieces r2 e2 0) 0 0 0 s en 0 j la := by
  obtain ⟨s, en, _, q1⟩ := pieces_head r1 e1 0
  obtain ⟨j, la, _, q2⟩ := pieces_head r2 e2 0
  have o1 := pieces_ok (b := 0) (S := S1) v1 p1 (fun n => by rw [Nat.zero_add]; exact h1 n) 0 (0, s, en) (by rw [q1]; rfl)
  have o2 := pieces_ok (b := 0) (S := S2) v2 p2 (fun n => by rw [Nat.zero_add]; exact h2 n) 0 (0, j, la) (by rw [q2]; rfl)
  exact ⟨s, en, j, la, o1, o2, fun _ _ => Nat.zero_le _, fun _ _ => Nat.zero_le _, fun n hn hle => by omega⟩
/-! ### several steps at once -/
theorem chunk_one {I : Nat → Prop} {x : Nat} (c : Closed I) (hl : ∀ n, 0 < n → I n → x ≤ n) (n : Nat) : I n ↔ Pre x 1 (fun m => I (x + m)) n := by
  constructor
  · intro hn
    by_cases hz : n = 0
    · subst hz; exact .inl ⟨0, by omega, by omega⟩
    · have := hl n (by omega) hn
      exact .inr ⟨n - x, by omega, by show I (x + (n - x)); rwa [show x + (n - x) = n by omega]⟩
  · rintro (⟨j, hj, rfl⟩ | ⟨m, rfl, hm⟩)
    · rw [show j = 0 by omega, Nat.zero_mul]; exact c.zero
    · rw [Nat.one_mul]; exact hm
theorem chunk_many {I : Nat → Prop} {x t : Nat} (c : Closed I) (hx : I x) (hm : ∀ n, n < t * x → I n → x ∣ n) (n : Nat) : I n ↔ Pre x t (fun m => I (t * x + m)) n := by
  constructor
  · intro hn
    by_cases hlt : n < t * x
    · obtain ⟨j, rfl⟩ := hm n hlt hn
      refine .inl ⟨j, ?_, Nat.mul_comm _ _⟩
      rw [Nat.mul_comm] at hlt
      exact Nat.lt_of_mul_lt_mul_right hlt
    · exact .inr ⟨n - t * x, by omega, by show I (t * x + (n - t * x)); rwa [show t * x + (n - t * x) = n by omega]⟩
  · rintro (⟨j, hj, rfl⟩ | ⟨m, rfl, hm⟩)
    · exact c.mul hx j
    · exact hm
/-- within the first runs of both the common numbers are the multiples of the least -/
theorem first_multiples {S1 S2 : Nat → Prop} {x a b y : Nat} (l : Least S1 S2 x) (h1 : ∀ n, n ≤ y → (S1 n ↔ a ∣ n)) (h2 : ∀ n, n ≤ y → (S2 n ↔ b ∣ n)) (ha : a ∣ x) (hb : b ∣ x) (n : Nat) (hn : n ≤ y) (q1 : S1 n) (q2 : S2 n) : x ∣ n := by
  have d1 := (h1 n hn).mp q1
  have d2 := (h2 n hn).mp q2
  have e := Nat.div_add_mod n x
  by_cases hz : n % x = 0
  · exact Nat.dvd_of_mod_eq_zero hz
  · exfalso
    have hlt := Nat.mod_lt n l.1
    have m1 : a ∣ n % x := (Nat.dvd_mod_iff ha).mpr d1
    have m2 : b ∣ n % x := (Nat.dvd_mod_iff hb).mpr d2
    have hle : n % x ≤ y := Nat.le_trans (Nat.mod_le _ _) hn
    have := l.2.2.2 (n % x) (by omega) ((h1 _ hle).mpr m1) ((h2 _ hle).mpr m2)
    omega
end Bfb
end
section
namespace Bfb
/-! what is in both: the two ways end at the same row -/
def Both (r1 : Runs) (e1 : Nat) (r2 : Runs) (e2 : Nat) (n : Nat) : Prop := within r1 e1 n = true ∧ within r2 e2 n = true
theorem both_closed {r1 r2 : Runs} {e1 e2 : Nat} (v1 : Valid r1 e1) (v2 : Valid r2 e2) : Closed (Both r1 e1 r2 e2) := by
  have c1 := valid_closed v1
  have c2 := valid_closed v2
  exact ⟨⟨c1.zero, c2.zero⟩, fun x y z hx hy hz h1 h2 => ⟨c1.step x y z hx.1 hy.1 hz.1 h1 h2, c2.step x y z hx.2 hy.2 hz.2 h1 h2⟩⟩
theorem both_far {r1 r2 : Runs} {e1 e2 : Nat} (v1 : Valid r1 e1) (v2 : Valid r2 e2) {n : Nat} (h : max (far r1) (far r2) ≤ n) : Both r1 e1 r2 e2 n ↔ n % (Nat.lcm e1 e2) = 0 := by
  unfold Both
  rw [far_all v1 n (by omega), far_all v2 n (by omega)]
  constructor
  · rintro ⟨a, b⟩
    exact Nat.mod_eq_zero_of_dvd (Nat.lcm_dvd (Nat.dvd_of_mod_eq_zero a) (Nat.dvd_of_mod_eq_zero b))
  · intro a
    have a := Nat.dvd_of_mod_eq_zero a
    exact ⟨Nat.mod_eq_zero_of_dvd (Nat.dvd_trans (Nat.dvd_lcm_left _ _) a), Nat.mod_eq_zero_of_dvd (Nat.dvd_trans (Nat.dvd_lcm_right _ _) a)⟩
theorem both_dvd {r1 r2 : Runs} {e1 e2 : Nat} (v1 : Valid r1 e1) (v2 : Valid r2 e2) {n : Nat} (h : Both r1 e1 r2 e2 n) : Nat.lcm e1 e2 ∣ n :=
  Nat.lcm_dvd (end_dvd v1 n h.1) (end_dvd v2 n h.2)
/-- the loop of the program -/
structure BInv (r1 : Runs) (e1 : Nat) (r2 : Runs) (e2 : Nat) (acc rl rr : Runs) : Prop where
  strict : Strict acc
  upos : ∀ x ∈ units acc, 0 < x
  vl : Valid rl e1
  vr : Valid rr e2
  mem : ∀ n, Both r1 e1 r2 e2 n ↔ inUT (units acc) (Both rl e1 rr e2) n
theorem binv_start {r1 r2 : Runs} {e1 e2 : Nat} (v1 : Valid r1 e1) (v2 : Valid r2 e2) : BInv r1 e1 r2 e2 [] r1 r2 :=
  ⟨trivial, fun x hx => by simp [units] at hx, v1, v2, fun _ => Iff.rfl⟩
/-- how often a step may be taken at once -/
def TimesOk (rl : Runs) (e1 : Nat) (rr : Runs) (e2 x t : Nat) : Prop := t = 1 ∨ (0 < t ∧ fstep rl e1 ∣ x ∧ fstep rr e2 ∣ x ∧ (∀ s k r, rl = (s, k) :: r → t * x ≤ s * k) ∧ (∀ s k r, rr = (s, k) :: r → t * x ≤ s * k))
theorem first_run {r : Runs} {e y : Nat} (v : Valid r e) (h : ∀ s k r', r = (s, k) :: r' → y ≤ s * k) (n : Nat) (hn : n ≤ y) : within r e n = true ↔ fstep r e ∣ n := by
  cases r with
  | nil =>
    simp only [within, decide_eq_true_eq, fstep]
    exact ⟨Nat.dvd_of_mod_eq_zero, Nat.mod_eq_zero_of_dvd⟩
  | cons p r' =>
    obtain ⟨s, k⟩ := p
    have hy := h s k r' rfl
    show _ ↔ s ∣ n
    rw [within_c]
    by_cases hlt : n < s * k
    · rw [if_pos hlt, decide_eq_true_eq]
      exact ⟨Nat.dvd_of_mod_eq_zero, Nat.mod_eq_zero_of_dvd⟩
    · rw [if_neg hlt, show n - s * k = 0 by omega]
      exact ⟨fun _ => ⟨k, by omega⟩, fun _ => (valid_closed v.2.2.2.2).zero⟩
theorem binv_step {r1 r2 : Runs} {e1 e2 : Nat} {acc rl rr : Runs} {x t : Nat} (h : BInv r1 e1 r2 e2 acc rl rr) (l : Least (fun n => within rl e1 n = true) (fun n => within rr e2 n = true) x) (ht : TimesOk rl e1 rr e2 x t) :
    BInv r1 e1 r2 e2 (pushR acc x t) (behindR rl (x * t)) (behindR rr (x * t)) ∧ within rl e1 (x * t) = true ∧ within rr e2 (x * t) = true ∧ 0 < x * t := by
  have c := both_closed h.vl h.vr
  have ht0 : 0 < t := by rcases ht with rfl | ht; exact Nat.one_pos; exact ht.1
  have hx : Both rl e1 rr e2 x := ⟨l.2.1, l.2.2.1⟩
  have hxt : Both rl e1 rr e2 (x * t) := by rw [Nat.mul_comm]; exact c.mul hx t
  have b1 := behindR_ok h.vl hxt.1
  have b2 := behindR_ok h.vr hxt.2
  have P := pushR_ok (s := x) h.strict ht0
  refine ⟨⟨P.1, fun y hy => ?_, b1.1, b2.1, fun n => ?_⟩, hxt.1, hxt.2, Nat.mul_pos l.1 ht0⟩
  · rw [P.2] at hy
    rcases List.mem_append.mp hy with hy | hy
    · exact h.upos y hy
    · rw [(List.mem_replicate.mp hy).2]; exact l.1
  · rw [h.mem n, P.2, inUT_append]
    refine inUT_congr _ (fun n => ?_) n
    have e0 : Both (behindR rl (x * t)) e1 (behindR rr (x * t)) e2 0 := by
      unfold Both
      rw [b1.2, b2.2, Nat.add_zero]; exact hxt
    rw [inUT_rep x t e0]
    have e : ∀ m, Both (behindR rl (x * t)) e1 (behindR rr (x * t)) e2 m ↔ Both rl e1 rr e2 (t * x + m) := fun m => by
      unfold Both
      rw [b1.2, b2.2, Nat.mul_comm t x]
    have e' : Pre x t (Both (behindR rl (x * t)) e1 (behindR rr (x * t)) e2) n ↔ Pre x t (fun m => Both rl e1 rr e2 (t * x + m)) n := by
      unfold Pre
      simp only [e]
    rw [e']
    rcases ht with rfl | ht
    · have := chunk_one c (x := x) (fun n hn q => l.2.2.2 n hn q.1 q.2) n
      rw [this, Nat.one_mul]
    · refine chunk_many c hx (fun n hn q => ?_) n
      exact first_multiples (S1 := fun n => within rl e1 n = true) (S2 := fun n => within rr e2 n = true) (y := t * x) l (first_run h.vl ht.2.2.2.1) (first_run h.vr ht.2.2.2.2) ht.2.1 ht.2.2.1 n (Nat.le_of_lt hn) q.1 q.2
theorem binv_end {r1 r2 : Runs} {e1 e2 : Nat} {acc : Runs} (v1 : Valid r1 e1) (v2 : Valid r2 e2) (p1 : 0 < e1) (p2 : 0 < e2) (h : BInv r1 e1 r2 e2 acc [] []) : IsRow (popEnd acc (Nat.lcm e1 e2)) (Nat.lcm e1 e2) (Both r1 e1 r2 e2) := by
  refine row_of_units (Nat.lcm_pos p1 p2) h.strict h.upos (both_closed v1 v2) (fun n => ?_)
  rw [h.mem n]
  refine inUT_congr _ (fun n => ?_) n
  exact both_far (r1 := []) (r2 := []) trivial trivial (Nat.zero_le _)
theorem least_le {rl rr : Runs} {e1 e2 x : Nat} (v1 : Valid rl e1) (v2 : Valid rr e2) (p1 : 0 < e1) (p2 : 0 < e2) (l : Least (fun n => within rl e1 n = true) (fun n => within rr e2 n = true) x) : x ≤ max (far rl) (far rr) + Nat.lcm e1 e2 := by
  have hL := Nat.lcm_pos p1 p2
  generalize hm : max (far rl) (far rr) = m
  have d := Nat.div_add_mod m (Nat.lcm e1 e2)
  have lt := Nat.mod_lt m hL
  have q : Both rl e1 rr e2 (Nat.lcm e1 e2 * (m / Nat.lcm e1 e2) + Nat.lcm e1 e2) := by
    rw [both_far v1 v2 (by omega)]
    rw [Nat.add_mod_right, Nat.mul_mod_right]
  have := l.2.2.2 _ (by omega) q.1 q.2
  omega
/-! ### the law's way: all members below a bound -/
def runsL : Runs → Nat → List Nat
  | [], _ => []
  | (s, t) :: r, b => (List.range t).map (fun i => b + i * s) ++ runsL r (b + s * t)
def tailL (b e bound : Nat) : List Nat := if e = 0 then (if b < bound then [b] else []) else (List.range ((bound - b + (e - 1)) / e)).map fun i => b + i * e
def inL (r : Runs) (e bound : Nat) : List Nat := (runsL r 0 ++ tailL (far r) e bound).filter fun x => decide (x < bound)
theorem tailL_mem {b e bound x : Nat} : x ∈ tailL b e bound ↔ b ≤ x ∧ x < bound ∧ (x - b) % e = 0 := by
  unfold tailL
  by_cases he : e = 0
  · subst he
    simp only [if_true, Nat.mod_zero]
    split
    · simp; omega
    · simp; omega
  · rw [if_neg he]
    simp only [List.mem_map, List.mem_range]
    have hp : 0 < e := Nat.pos_of_ne_zero he
    constructor
    · rintro ⟨i, hi, rfl⟩
      have h1 : (i + 1) * e ≤ bound - b + (e - 1) := (Nat.le_div_iff_mul_le hp).mp hi
      rw [smul] at h1
      refine ⟨by omega, by omega, ?_⟩
      rw [Nat.add_sub_cancel_left]; exact Nat.mul_mod_left _ _
    · rintro ⟨h1, h2, h3⟩
      have e1 := Nat.div_mul_cancel (Nat.dvd_of_mod_eq_zero h3)
      refine ⟨(x - b) / e, ?_, by omega⟩
      show (x - b) / e + 1 ≤ _
      rw [Nat.le_div_iff_mul_le hp, smul, e1]
      omega
theorem runsL_mem : ∀ {r : Runs} {e b x : Nat}, Valid r e → (x ∈ runsL r b ↔ b ≤ x ∧ x < b + far r ∧ within r e (x - b) = true)
  | [], e, b, x, _ => by simp [runsL, far]; omega
  | (s, t) :: r, e, b, x, v => by
    have hs := fstep_pos_of_valid v
    show x ∈ (List.range t).map (fun i => b + i * s) ++ runsL r (b + s * t) ↔ b ≤ x ∧ x < b + (s * t + far r) ∧ _
    rw [List.mem_append, runsL_mem v.2.2.2.2, within_c]
    simp only [List.mem_map, List.mem_range]
    constructor
    · rintro (⟨i, hi, rfl⟩ | ⟨h1, h2, h3⟩)
      · have : i * s < s * t := by rw [Nat.mul_comm s t]; exact Nat.mul_lt_mul_of_pos_right hi hs
        refine ⟨by omega, by omega, ?_⟩
        rw [Nat.add_sub_cancel_left, if_pos this]; simp
      · refine ⟨by omega, by omega, ?_⟩
        rw [if_neg (by omega), show x - b - s * t = x - (b + s * t) by omega]; exact h3
    · rintro ⟨h1, h2, h3⟩
      by_cases hlt : x - b < s * t
      · rw [if_pos hlt, decide_eq_true_eq] at h3
        have e1 := Nat.div_mul_cancel (Nat.dvd_of_mod_eq_zero h3)
        refine .inl ⟨(x - b) / s, ?_, by omega⟩
        rw [Nat.div_lt_iff_lt_mul hs, Nat.mul_comm]; exact hlt
      · rw [if_neg hlt] at h3
        exact .inr ⟨by omega, by omega, by rw [show x - (b + s * t) = x - b - s * t by omega]; exact h3⟩
theorem inL_mem {r : Runs} {e bound x : Nat} (v : Valid r e) : x ∈ inL r e bound ↔ within r e x = true ∧ x < bound := by
  unfold inL
  rw [List.mem_filter, List.mem_append, runsL_mem v, tailL_mem, decide_eq_true_eq]
  have hd : far r % e = 0 := Nat.mod_eq_zero_of_dvd (end_dvd v _ (far_in v))
  constructor
  · rintro ⟨(⟨_, _, h⟩ | ⟨h1, _, h3⟩), hb⟩
    · exact ⟨by simpa using h, hb⟩
    · refine ⟨?_, hb⟩
      rw [far_all v x h1]
      have := Nat.dvd_add (Nat.dvd_of_mod_eq_zero h3) (Nat.dvd_of_mod_eq_zero hd)
      rw [Nat.sub_add_cancel h1] at this
      exact Nat.mod_eq_zero_of_dvd this
  · rintro ⟨h, hb⟩
    refine ⟨?_, hb⟩
    by_cases hlt : x < far r
    · exact .inl ⟨Nat.zero_le _, by omega, by simpa using h⟩
    · refine .inr ⟨by omega, hb, ?_⟩
      rw [far_all v x (by omega)] at h
      exact Nat.mod_eq_zero_of_dvd (Nat.dvd_sub (Nat.dvd_of_mod_eq_zero h) (Nat.dvd_of_mod_eq_zero hd))
theorem asc_map (b s : Nat) (hs : 0 < s) : ∀ t, ((List.range t).map fun i => b + i * s).Pairwise (· < ·) := by
  intro t
  rw [List.pairwise_map]
  refine List.Pairwise.imp (fun {x y} h => ?_) List.pairwise_lt_range
  have := Nat.mul_lt_mul_of_pos_right h hs
  omega
theorem runsL_asc : ∀ {r : Runs} {e b : Nat}, Valid r e → (runsL r b).Pairwise (· < ·)
  | [], _, _, _ => List.Pairwise.nil
  | (s, t) :: r, e, b, v => by
    have hs := fstep_pos_of_valid v
    refine List.pairwise_append.mpr ⟨asc_map b s hs t, runsL_asc v.2.2.2.2, fun x hx y hy => ?_⟩
    obtain ⟨i, hi, rfl⟩ := List.mem_map.mp hx
    have := (runsL_mem v.2.2.2.2).mp hy
    have h2 : i * s < s * t := by rw [Nat.mul_comm s t]; exact Nat.mul_lt_mul_of_pos_right (List.mem_range.mp hi) hs
    omega
theorem inL_asc {r : Runs} {e bound : Nat} (v : Valid r e) : (inL r e bound).Pairwise (· < ·) := by
  refine List.Pairwise.filter _ (List.pairwise_append.mpr ⟨runsL_asc v, ?_, fun x hx y hy => ?_⟩)
  · unfold tailL
    by_cases he : e = 0
    · rw [if_pos he]
      split
      · exact List.pairwise_singleton _ _
      · exact List.Pairwise.nil
    · rw [if_neg he]
      exact asc_map _ _ (Nat.pos_of_ne_zero he) _
  · have h1 := (runsL_mem v).mp hx
    have h2 := tailL_mem.mp hy
    omega
def gapsL : List Nat → List Nat
  | a :: b :: l => (b - a) :: gapsL (b :: l)
  | _ => []
theorem gaps_ok {I : Nat → Prop} {L : Nat} : ∀ (l : List Nat) (a : Nat), (a :: l).Pairwise (· < ·) → (∀ z, (a :: l).getLast? = some z → (∀ x, a ≤ x → x ≤ z → (I x ↔ x ∈ a :: l)) ∧ ∀ x, z ≤ x → (I x ↔ (x - z) % L = 0)) → ∀ m, I (a + m) ↔ inUT (gapsL (a :: l)) (Mul L) m
  | [], a, _, h, m => by
    have := (h a rfl).2 (a + m) (by omega)
    rw [Nat.add_sub_cancel_left] at this
    exact this
  | b :: l, a, hp, h, m => by
    obtain ⟨h1, hp2⟩ := List.pairwise_cons.mp hp
    have hab := h1 b (by simp)
    have ih := gaps_ok (I := I) (L := L) l b hp2 (fun z hz => by
      have hz' : (a :: b :: l).getLast? = some z := by rw [List.getLast?_cons_cons]; exact hz
      obtain ⟨q1, q2⟩ := h z hz'
      refine ⟨fun x hx hxz => ?_, q2⟩
      rw [q1 x (by omega) hxz, List.mem_cons]
      constructor
      · rintro (rfl | q)
        · omega
        · exact q
      · intro q; exact .inr q)
    obtain ⟨z, hz⟩ : ∃ z, (a :: b :: l).getLast? = some z := ⟨_, List.getLast?_eq_some_getLast (List.cons_ne_nil _ _)⟩
    obtain ⟨q1, q2⟩ := h z hz
    have hbz : b ≤ z := by
      have hm : z ∈ b :: l := by
        rw [List.getLast?_cons_cons] at hz
        exact List.mem_of_getLast? hz
      rcases List.mem_cons.mp hm with rfl | hm
      · exact Nat.le_refl _
      · exact Nat.le_of_lt ((List.pairwise_cons.mp hp2).1 z hm)
    show I (a + m) ↔ (m = 0 ∨ ∃ m', m = b - a + m' ∧ inUT (gapsL (b :: l)) (Mul L) m')
    constructor
    · intro hm
      by_cases hlt : a + m < b
      · have := (q1 (a + m) (by omega) (by omega)).mp hm
        rcases List.mem_cons.mp this with q | q
        · exact .inl (by omega)
        · exfalso
          rcases List.mem_cons.mp q with q | q
          · omega
          · have := (List.pairwise_cons.mp hp2).1 _ q; omega
      · exact .inr ⟨m - (b - a), by omega, (ih _).mp (by rwa [show b + (m - (b - a)) = a + m by omega])⟩
    · rintro (rfl | ⟨m', rfl, hm⟩)
      · exact (q1 a (Nat.le_refl _) (by omega)).mpr (by simp)
      · have := (ih m').mpr hm
        rwa [show a + (b - a + m') = b + m' by omega]
theorem gapsL_pos : ∀ (l : List Nat), l.Pairwise (· < ·) → ∀ x ∈ gapsL l, 0 < x
  | [], _, x, hx => by simp [gapsL] at hx
  | [_], _, x, hx => by simp [gapsL] at hx
  | a :: b :: l, h, x, hx => by
    have hx : x ∈ (b - a) :: gapsL (b :: l) := hx
    obtain ⟨h1, h2⟩ := List.pairwise_cons.mp h
    rcases List.mem_cons.mp hx with rfl | hx
    · have := h1 b (by simp); omega
    · exact gapsL_pos (b :: l) h2 x hx
/-- the runs of some steps -/
def runsOf (l : List Nat) : Runs := l.foldl (fun acc s => pushR acc s 1) []
theorem runsOf_ok (l : List Nat) : Strict (runsOf l) ∧ units (runsOf l) = l := by
  have : ∀ (l : List Nat) (acc : Runs), Strict acc → Strict (l.foldl (fun acc s => pushR acc s 1) acc) ∧ units (l.foldl (fun acc s => pushR acc s 1) acc) = units acc ++ l := by
    intro l
    induction l with
    | nil => intro acc h; exact ⟨h, by simp⟩
    | cons s l ih =>
      intro acc h
      have P := pushR_ok (s := s) (t := 1) h Nat.one_pos
      have := ih _ P.1
      refine ⟨this.1, ?_⟩
      rw [List.foldl_cons, this.2, P.2]
      simp
  have := this l [] trivial
  simpa [runsOf, units] using this
def lawBound (f L : Nat) : Nat := (f / L + 2) * L + 1
theorem law_both {r1 r2 : Runs} {e1 e2 : Nat} (v1 : Valid r1 e1) (v2 : Valid r2 e2) (p1 : 0 < e1) (p2 : 0 < e2) {l : List Nat} {f : Nat} (hf : max (far r1) (far r2) ≤ f)
    (ha : l.Pairwise (· < ·)) (hm : ∀ x, x ∈ l ↔ Both r1 e1 r2 e2 x ∧ x < lawBound f (Nat.lcm e1 e2)) :
    IsRow (runsOf ((gapsL l).filter fun x => decide (Nat.lcm e1 e2 < x))) (Nat.lcm e1 e2) (Both r1 e1 r2 e2) := by
  have hL := Nat.lcm_pos p1 p2
  have c := both_closed v1 v2
  have R := runsOf_ok ((gapsL l).filter fun x => decide (Nat.lcm e1 e2 < x))
  have d := Nat.div_add_mod f (Nat.lcm e1 e2)
  have lt := Nat.mod_lt f hL
  have eb : (f / Nat.lcm e1 e2 + 2) * Nat.lcm e1 e2 = Nat.lcm e1 e2 * (f / Nat.lcm e1 e2) + 2 * Nat.lcm e1 e2 := by rw [Nat.add_mul, Nat.mul_comm (f / Nat.lcm e1 e2)]
  refine row_of_steps hL R.1 R.2 (gapsL_pos l ha) c (fun n => ?_)
  -- the list begins with 0 and ends with the greatest multiple
  have h0 : 0 ∈ l := (hm 0).mpr ⟨c.zero, by unfold lawBound; omega⟩
  have hz : lawBound f (Nat.lcm e1 e2) - 1 ∈ l := (hm _).mpr ⟨by
    rw [both_far v1 v2 (by unfold lawBound; omega)]
    unfold lawBound
    rw [Nat.add_sub_cancel]; exact Nat.mul_mod_left _ _, by unfold lawBound; omega⟩
  match l, ha, hm, h0, hz with
  | a :: l, ha, hm, h0, hz =>
    have a0 : a = 0 := by
      rcases List.mem_cons.mp h0 with q | q
      · exact q.symm
      · have := (List.pairwise_cons.mp ha).1 0 q; omega
    subst a0
    have := gaps_ok (I := Both r1 e1 r2 e2) (L := Nat.lcm e1 e2) l 0 ha (fun z hzl => ?_) n
    · rwa [Nat.zero_add] at this
    · have hzm := List.mem_of_getLast? hzl
      have hlt := ((hm z).mp hzm).2
      have hle : lawBound f (Nat.lcm e1 e2) - 1 ≤ z := by
        have key : ∀ (l : List Nat) (w : Nat), l.Pairwise (· < ·) → l.getLast? = some z → w ∈ l → w ≤ z := by
          intro l
          induction l with
          | nil => intro w _ _ hw; simp at hw
          | cons p l ih =>
            intro w hp hl hw
            cases l with
            | nil =>
              have : p = z := by simpa using hl
              have : w = p := by simpa using hw
              omega
            | cons q l =>
              rw [List.getLast?_cons_cons] at hl
              rcases List.mem_cons.mp hw with rfl | hw
              · exact Nat.le_of_lt ((List.pairwise_cons.mp hp).1 z (List.mem_of_getLast? hl))
              · exact ih w (List.pairwise_cons.mp hp).2 hl hw
        exact key _ _ ha hzl hz
      have ez : z = lawBound f (Nat.lcm e1 e2) - 1 := by unfold lawBound at *; omega
      have ezd : z = (f / Nat.lcm e1 e2 + 2) * Nat.lcm e1 e2 := by rw [ez]; unfold lawBound; omega
      refine ⟨fun x _ hx => ?_, fun x hx => ?_⟩
      · rw [hm x]
        exact ⟨fun q => ⟨q, by unfold lawBound; omega⟩, fun q => q.1⟩
      · rw [both_far v1 v2 (by omega)]
        have hzd : Nat.lcm e1 e2 ∣ z := ⟨f / Nat.lcm e1 e2 + 2, by rw [ezd, Nat.mul_comm]⟩
        constructor
        · intro q
          exact Nat.mod_eq_zero_of_dvd (Nat.dvd_sub (Nat.dvd_of_mod_eq_zero q) hzd)
        · intro q
          have := Nat.dvd_add (Nat.dvd_of_mod_eq_zero q) hzd
          rw [Nat.sub_add_cancel hx] at this
          exact Nat.mod_eq_zero_of_dvd this
/-- a row's runs end where its multiples begin -/
theorem before_far : ∀ {r : Runs} {e : Nat}, Valid r e → r ≠ [] → e ≤ far r ∧ within r e (far r - e) = false
  | [], _, _, h => absurd rfl h
  | (s, t) :: r, e, v, _ => by
    have hs := fstep_pos_of_valid v
    have ht := v.1
    have hst : s ≤ s * t := Nat.le_mul_of_pos_right _ ht
    have hge := fstep_ge v.2.2.2.2
    have hlt := v.2.1
    have he : 0 < e := end_pos v (by simp)
    show e ≤ s * t + far r ∧ within ((s, t) :: r) e (s * t + far r - e) = false
    rw [within_c]
    by_cases hr : r = []
    · subst hr
      have hes : e < s := hlt
      show e ≤ s * t + 0 ∧ _
      refine ⟨by omega, ?_⟩
      have hf : far [] = 0 := rfl
      rw [hf, if_pos (by omega)]
      refine decide_eq_false fun q => ?_
      have hd := Nat.dvd_of_mod_eq_zero q
      have h2 : s ∣ s * t := ⟨t, rfl⟩
      have h3 := Nat.dvd_sub h2 hd
      rw [show s * t - (s * t + 0 - e) = e by omega] at h3
      have := Nat.le_of_dvd he h3
      omega
    · have ih := before_far v.2.2.2.2 hr
      refine ⟨by omega, ?_⟩
      rw [if_neg (by omega), show s * t + far r - e - s * t = far r - e by omega]
      exact ih.2
theorem far_lt {r : Runs} {e N : Nat} (v : Valid r e) (h : ∀ n, N ≤ n → n % e = 0 → within r e n = true) : far r ≤ N + e := by
  by_cases hr : r = []
  · subst hr; exact Nat.zero_le _
  · have b := before_far v hr
    by_cases hle : N ≤ far r - e
    · have hd : (far r - e) % e = 0 := Nat.mod_eq_zero_of_dvd (Nat.dvd_sub (end_dvd v _ (far_in v)) (Nat.dvd_refl e))
      rw [h _ hle hd] at b
      exact absurd b.2 (by decide)
    · omega
theorem both_row_far {r1 r2 r : Runs} {e1 e2 : Nat} (v1 : Valid r1 e1) (v2 : Valid r2 e2) (h : IsRow r (Nat.lcm e1 e2) (Both r1 e1 r2 e2)) : far r ≤ max (far r1) (far r2) + Nat.lcm e1 e2 :=
  far_lt h.ok fun n hn hd => (h.mem n).mpr ((both_far v1 v2 hn).mpr hd)
end Bfb
end
section
namespace Bfb
/-! three sets handed on: the turns come to rest -/
theorem least_of {P : Nat → Prop} {n : Nat} (h : P n) : ∃ m, P m ∧ ∀ k, k < m → ¬ P k := by
  induction n using Nat.strongRecOn with
  | ind n ih =>
    by_cases hk : ∃ k, k < n ∧ P k
    · obtain ⟨k, hk, hp⟩ := hk
      exact ih k hk hp
    · exact ⟨n, h, fun k hk' hp => hk ⟨k, hk', hp⟩⟩
abbrev Tri := Fin 3 → Nat → Prop
structure Sol (g : Tri) (S : Tri) : Prop where
  closed : ∀ p, Closed (S p)
  base : ∀ p n, g p n → S p n
  hand : ∀ p n, S (p + 1) n → S (p + 2) n → S p n
def Lst (g : Tri) (p : Fin 3) (n : Nat) : Prop := ∀ S, Sol g S → S p n
theorem lst_sol (g : Tri) : Sol g (Lst g) :=
  ⟨fun p => ⟨fun S h => (h.closed p).zero, fun x y z hx hy hz h1 h2 S h => (h.closed p).step x y z (hx S h) (hy S h) (hz S h) h1 h2⟩, fun p n hn S h => h.base p n hn, fun p n h1 h2 S h => h.hand p n (h1 S h) (h2 S h)⟩
theorem three (p : Fin 3) : p + 1 + 1 = p + 2 ∧ p + 1 + 2 = p ∧ p + 2 + 1 = p ∧ p + 2 + 2 = p + 1 := by
  match p with
  | 0 => decide
  | 1 => decide
  | 2 => decide
theorem settle {g S : Tri} {n : Nat} (hc : ∀ p, Closed (S p)) (hg : ∀ p m, g p m → S p m) (hs : ∀ p m, S p m → Lst g p m) (hb : ∀ p m, m < n → Lst g p m → S p m) (p : Fin 3) (h : Lst g p n) : S p n ∨ (S (p + 1) n ∧ S (p + 2) n) := by
  have F := lst_sol g
  have G : Sol g (fun q m => Lst g q m ∧ (m = n → S q n ∨ (S (q + 1) n ∧ S (q + 2) n))) := by
    refine ⟨fun q => ⟨⟨(F.closed q).zero, fun e => .inl (by rw [← e]; exact (hc q).zero)⟩, fun x y z hx hy hz h1 h2 => ⟨(F.closed q).step x y z hx.1 hy.1 hz.1 h1 h2, fun e => ?_⟩⟩, fun q m hm => ⟨F.base q m hm, fun e => .inl (by rw [← e]; exact hg q m hm)⟩, fun q m h1 h2 => ⟨F.hand q m h1.1 h2.1, fun e => ?_⟩⟩
    · by_cases ex : x = n
      · exact hx.2 ex
      · by_cases ey : y = n
        · exact hy.2 ey
        · refine .inl ?_
          rw [← e]
          exact (hc q).step x y z (hb q x (by omega) hx.1) (hb q y (by omega) hy.1) (hb q z (by omega) hz.1) h1 h2
    · have a := h1.2 e
      have b := h2.2 e
      obtain ⟨t1, t2, t3, t4⟩ := three q
      rw [t1, t2] at a
      rw [t3, t4] at b
      rcases a with a | ⟨a1, a2⟩
      · rcases b with b | ⟨b1, b2⟩
        · exact .inr ⟨a, b⟩
        · exact .inl b1
      · exact .inl a2
  exact (h _ G).2 rfl
/-- turns of three sets -/
structure Turns (g : Tri) (S : Nat → Tri) : Prop where
  closed : ∀ t p, Closed (S t p)
  base : ∀ p n, g p n → S 0 p n
  grow : ∀ t p n, S t p n → S (t + 1) p n
  hand : ∀ t p n, S t (p + 1) n → S t (p + 2) n → S (t + 1) p n
  below : ∀ t p n, S t p n → Lst g p n
theorem Turns.base' {g : Tri} {S : Nat → Tri} (T : Turns g S) : ∀ t p n, g p n → S t p n
  | 0, p, n, h => T.base p n h
  | t + 1, p, n, h => T.grow t p n (T.base' t p n h)
/-- two numbers of a set around n, d apart -/
def Bd (S : Nat → Prop) (n d : Nat) : Prop := ∃ u, u ≤ n ∧ n < u + d ∧ S u ∧ S (u + d)
theorem Bd.mono {S S' : Nat → Prop} {n d : Nat} (h : Bd S n d) (k : ∀ m, S m → S' m) : Bd S' n d := by
  obtain ⟨u, a, b, c, e⟩ := h
  exact ⟨u, a, b, k _ c, k _ e⟩
theorem Bd.later {S : Nat → Prop} {n n' d : Nat} (c : Closed S) (h : Bd S n d) (hn : n ≤ n') : Bd S n' d := by
  obtain ⟨u, a, b, h1, h2⟩ := h
  have hd : 0 < d := by omega
  have step : ∀ j, S (u + j * d) := by
    intro j
    induction j with
    | zero => rw [Nat.zero_mul]; exact h1
    | succ j ih =>
      have := c.step (u + j * d) (u + d) u ih h2 h1 (by omega) (by omega)
      rw [Nat.succ_mul]
      rwa [show u + j * d + (u + d) - u = u + (j * d + d) by omega] at this
  have e := Nat.div_add_mod (n' - u) d
  have lt := Nat.mod_lt (n' - u) hd
  rw [Nat.mul_comm] at e
  refine ⟨u + (n' - u) / d * d, by omega, by omega, step _, ?_⟩
  have := step ((n' - u) / d + 1)
  rwa [Nat.succ_mul, ← Nat.add_assoc] at this
theorem Bd.half {S S' : Nat → Prop} {n d : Nat} (c : Closed S') (h : Bd S n d) (k : ∀ m, S m → S' m) (h1 : ¬ S n) (h2 : S' n) : ∃ d', Bd S' n d' ∧ 2 * d' ≤ d := by
  obtain ⟨u, a, b, e1, e2⟩ := h
  have hu : u ≠ n := fun z => h1 (z ▸ e1)
  by_cases hh : 2 * (n - u) ≤ d
  · refine ⟨n - u, ⟨n, Nat.le_refl _, by omega, h2, ?_⟩, hh⟩
    have := c.step n n u h2 h2 (k _ e1) a a
    rwa [show n + n - u = n + (n - u) by omega] at this
  · refine ⟨u + d - n, ⟨n, Nat.le_refl _, by omega, h2, ?_⟩, by omega⟩
    rw [show n + (u + d - n) = u + d by omega]
    exact k _ e2
def Rest (g : Tri) (S : Tri) : Prop := ∀ p n, Lst g p n → S p n
theorem not_rest {g S : Tri} (h : ¬ Rest g S) : ∃ n, (∃ p, Lst g p n ∧ ¬ S p n) ∧ ∀ m, m < n → ∀ p, Lst g p m → S p m := by
  have : ∃ n, ∃ p, Lst g p n ∧ ¬ S p n := by
    refine Classical.byContradiction fun hn => h fun p n hp => Classical.byContradiction fun hs => hn ⟨n, p, hp, hs⟩
  obtain ⟨n, hn⟩ := this
  obtain ⟨m, hm, hl⟩ := least_of (P := fun n => ∃ p, Lst g p n ∧ ¬ S p n) hn
  exact ⟨m, hm, fun k hk p hp => Classical.byContradiction fun hs => hl k hk ⟨p, hp, hs⟩⟩
theorem prod_half {d d' : Fin 3 → Nat} {p : Fin 3} {k N : Nat} (h : 2 * d' p ≤ d p) (ho : ∀ q, q ≠ p → d' q = d q) (hN : d 0 * d 1 * d 2 * k ≤ N) : d' 0 * d' 1 * d' 2 * (2 * k) ≤ N := by
  refine Nat.le_trans (Nat.le_of_eq ?_) (Nat.le_trans (Nat.mul_le_mul_right k (show 2 * (d' 0 * d' 1 * d' 2) ≤ d 0 * d 1 * d 2 from ?_)) hN)
  · rw [← Nat.mul_assoc, Nat.mul_comm (d' 0 * d' 1 * d' 2) 2]
  · match p, h, ho with
    | 0, h, ho =>
      rw [ho 1 (by decide), ho 2 (by decide), ← Nat.mul_assoc, ← Nat.mul_assoc]
      exact Nat.mul_le_mul_right _ (Nat.mul_le_mul_right _ h)
    | 1, h, ho =>
      rw [ho 0 (by decide), ho 2 (by decide), ← Nat.mul_assoc, ← Nat.mul_assoc, Nat.mul_comm 2 (d 0), Nat.mul_assoc (d 0) 2]
      exact Nat.mul_le_mul_right _ (Nat.mul_le_mul_left _ h)
    | 2, h, ho =>
      rw [ho 0 (by decide), ho 1 (by decide), Nat.mul_comm 2, Nat.mul_assoc (d 0 * d 1), Nat.mul_comm (d' 2)]
      exact Nat.mul_le_mul_left _ h
theorem turns_rest {g : Tri} {S : Nat → Tri} (T : Turns g S) (h0 : ∀ p, ∃ d, 0 < d ∧ d ≤ 24 ∧ S 0 p d) : Rest g (S 14) := by
  have key : ∀ t, Rest g (S t) ∨ ∃ n, (∃ p, Lst g p n ∧ ¬ S t p n) ∧ (∀ m, m < n → ∀ p, Lst g p m → S t p m) ∧ ∃ d : Fin 3 → Nat, (∀ p, Bd (S t p) n (d p)) ∧ d 0 * d 1 * d 2 * 2 ^ t ≤ 13824 := by
    intro t
    induction t with
    | zero =>
      by_cases hr : Rest g (S 0)
      · exact .inl hr
      · obtain ⟨n, h1, h2⟩ := not_rest hr
        refine .inr ⟨n, h1, h2, ?_⟩
        have hd : ∀ p, ∃ d, d ≤ 24 ∧ Bd (S 0 p) n d := fun p => by
          obtain ⟨d, a, b, c⟩ := h0 p
          refine ⟨d, b, ?_⟩
          have : Bd (S 0 p) 0 d := ⟨0, Nat.le_refl _, by omega, (T.closed 0 p).zero, by rw [Nat.zero_add]; exact c⟩
          exact this.later (T.closed 0 p) (Nat.zero_le _)
        obtain ⟨d0, a0, b0⟩ := hd 0
        obtain ⟨d1, a1, b1⟩ := hd 1
        obtain ⟨d2, a2, b2⟩ := hd 2
        refine ⟨fun p => match p with | 0 => d0 | 1 => d1 | 2 => d2, fun p => match p with | 0 => b0 | 1 => b1 | 2 => b2, ?_⟩
        show d0 * d1 * d2 * 1 ≤ 13824
        rw [Nat.mul_one]
        exact Nat.le_trans (Nat.mul_le_mul (Nat.mul_le_mul a0 a1) a2) (by decide)
    | succ t ih =>
      rcases ih with hr | ⟨n, ⟨p, hp, hnp⟩, hb, d, hd, hN⟩
      · exact .inl fun p n h => T.grow t p n (hr p n h)
      · by_cases hr : Rest g (S (t + 1))
        · exact .inl hr
        · obtain ⟨n', h1, h2⟩ := not_rest hr
          refine .inr ⟨n', h1, h2, ?_⟩
          have at_n : ∀ q, Lst g q n → S (t + 1) q n := fun q hq => by
            rcases settle (T.closed t) (T.base' t) (T.below t) (fun p m hm => hb m hm p) q hq with s | ⟨s1, s2⟩
            · exact T.grow t q n s
            · exact T.hand t q n s1 s2
          have hnn : n ≤ n' := by
            obtain ⟨q, hq1, hq2⟩ := h1
            refine Nat.le_of_not_lt fun hlt => hq2 (T.grow t q n' (hb n' hlt q hq1))
          obtain ⟨d', hd', hh⟩ := (hd p).half (T.closed (t + 1) p) (T.grow t p) hnp (at_n p hp)
          refine ⟨fun q => if q = p then d' else d q, fun q => ?_, ?_⟩
          · show Bd _ _ (if q = p then d' else d q)
            by_cases e : q = p
            · rw [if_pos e, e]; exact hd'.later (T.closed _ _) hnn
            · rw [if_neg e]; exact ((hd q).mono (T.grow t q)).later (T.closed _ _) hnn
          · rw [Nat.pow_succ, Nat.mul_comm (2 ^ t) 2]
            refine prod_half (d := d) (d' := fun q => if q = p then d' else d q) (p := p) ?_ (fun q hq => if_neg hq) hN
            show 2 * (if p = p then d' else d p) ≤ d p
            rw [if_pos rfl]; exact hh
  rcases key 14 with hr | ⟨n, _, _, d, hd, hN⟩
  · exact hr
  · exfalso
    have pos : ∀ p, 1 ≤ d p := fun p => by
      obtain ⟨u, a, b, _⟩ := hd p
      omega
    have : 1 * 1 * 1 * 2 ^ 14 ≤ d 0 * d 1 * d 2 * 2 ^ 14 := Nat.mul_le_mul_right _ (Nat.mul_le_mul (Nat.mul_le_mul (pos 0) (pos 1)) (pos 2))
    have e : (2 : Nat) ^ 14 = 16384 := by decide
    rw [e] at this hN
    omega
/-- where one set has no counts of its own, a turn is enough -/
theorem turns_rest1 {g : Tri} {S : Nat → Tri} (T : Turns g S) (p : Fin 3) (h0 : ∀ n, g p n → n = 0) (hS : ∀ q n, S 0 q n ↔ Cl (g q) n) : Rest g (S 1) := by
  obtain ⟨t1, t2, t3, t4⟩ := three p
  have c0 : ∀ q, Closed (Cl (g q)) := fun q => Cl.closed _
  have G : Sol g (fun q n => if q = p then Cl (g (p + 1)) n ∧ Cl (g (p + 2)) n else Cl (g q) n) := by
    refine ⟨fun q => ?_, fun q n hn => ?_, fun q n h1 h2 => ?_⟩
    · by_cases e : q = p
      · simp only [if_pos e]
        exact ⟨⟨(c0 _).zero, (c0 _).zero⟩, fun x y z hx hy hz a b => ⟨(c0 _).step x y z hx.1 hy.1 hz.1 a b, (c0 _).step x y z hx.2 hy.2 hz.2 a b⟩⟩
      · simp only [if_neg e]; exact c0 q
    · by_cases e : q = p
      · simp only [if_pos e]
        rw [e] at hn
        rw [h0 n hn]
        exact ⟨(c0 _).zero, (c0 _).zero⟩
      · simp only [if_neg e]; exact Cl.base hn
    · have cases3 : q = p ∨ q = p + 1 ∨ q = p + 2 := by
        match p, q with
        | 0, 0 | 0, 1 | 0, 2 | 1, 0 | 1, 1 | 1, 2 | 2, 0 | 2, 1 | 2, 2 => decide
      have n1 : p + 1 ≠ p ∧ p + 2 ≠ p ∧ p + 1 ≠ p + 2 := by
        match p with
        | 0 | 1 | 2 => decide
      rcases cases3 with rfl | rfl | rfl
      · simp only [if_true]
        simp only [if_neg n1.1] at h1
        simp only [if_neg n1.2.1] at h2
        exact ⟨h1, h2⟩
      · simp only [if_neg n1.1]
        rw [t2] at h2
        simp only [if_true] at h2
        exact h2.1
      · simp only [if_neg n1.2.1]
        rw [t3] at h1
        simp only [if_true] at h1
        exact h1.2
  intro q n hq
  have h := hq _ G
  by_cases e : q = p
  · simp only [if_pos e] at h
    rw [e]
    exact T.hand 0 p n ((hS _ _).mpr h.1) ((hS _ _).mpr h.2)
  · simp only [if_neg e] at h
    exact T.grow 0 q n ((hS _ _).mpr h)
end Bfb
end
section
namespace Bfb
/-! the rows of three sets, turn by turn -/
abbrev Row := Runs × Nat
def InR (R : Row) (n : Nat) : Prop := within R.1 R.2 n = true
abbrev VR (R : Row) : Prop := Valid R.1 R.2
abbrev RowOf (R : Row) (S : Nat → Prop) : Prop := IsRow R.1 R.2 S
theorem RowOf.uniq {R R' : Row} {S : Nat → Prop} (h : RowOf R S) (h' : RowOf R' S) : R = R' := by
  have := row_unique h h'
  exact Prod.ext this.1 this.2
theorem VR.rowOf {R : Row} (v : VR R) : RowOf R (InR R) := ⟨v, fun _ => Iff.rfl⟩
def PosIn (l : List Nat) (c : Nat) : Prop := c ∈ l ∧ 0 < c
theorem min_of {P : Nat → Prop} {n : Nat} (h : P n) : ∃ m, P m ∧ ∀ k, P k → m ≤ k := by
  obtain ⟨m, a, b⟩ := least_of h
  exact ⟨m, a, fun k hk => Nat.le_of_not_lt fun hlt => b k hlt hk⟩
theorem good_exists : ∀ (a : Nat) (l : List Nat), (∀ c, PosIn l c → ∃ d, PosIn l d ∧ d ≤ a) → ∃ R : Row, Good (PosIn l) R.1 R.2 := by
  intro a
  induction a using Nat.strongRecOn with
  | ind a ih =>
    intro l h
    by_cases hn : ∃ c, PosIn l c
    · obtain ⟨c, hc⟩ := hn
      obtain ⟨m, hm, hmin⟩ := min_of hc
      by_cases hd : ∃ c, PosIn l c ∧ c % m ≠ 0
      · obtain ⟨c1, hc1⟩ := hd
        obtain ⟨k, ⟨c0, hc0, hcm, hck⟩, hk⟩ := min_of (P := fun k => ∃ c, PosIn l c ∧ c % m ≠ 0 ∧ c / m = k) ⟨c1, hc1.1, hc1.2, rfl⟩
        have hk' : ∀ c, PosIn l c → c % m ≠ 0 → k ≤ c / m := fun c h1 h2 => hk _ ⟨c, h1, h2, rfl⟩
        have hma : m ≤ a := by
          obtain ⟨d, hd1, hd2⟩ := h c hc
          exact Nat.le_trans (hmin d hd1) hd2
        have hlt := Nat.mod_lt c0 hm.2
        have e := Nat.div_add_mod c0 m
        rw [Nat.mul_comm, hck] at e
        have hpos : 0 < c0 % m := Nat.pos_of_ne_zero hcm
        let l' := m :: (l.filter fun c => decide (k * m < c)).map fun c => c - k * m
        have hl' : ∀ b, PosIn l' b ↔ Beh (PosIn l) m k b := fun b => by
          unfold PosIn Beh
          simp only [l', List.mem_cons, List.mem_map, List.mem_filter, decide_eq_true_eq]
          constructor
          · rintro ⟨rfl | ⟨c, ⟨h1, h2⟩, rfl⟩, h3⟩
            · exact .inl rfl
            · exact .inr ⟨c, ⟨h1, by omega⟩, h2, rfl⟩
          · rintro (rfl | ⟨c, ⟨h1, _⟩, h2, rfl⟩)
            · exact ⟨.inl rfl, hm.2⟩
            · exact ⟨.inr ⟨c, ⟨h1, h2⟩, rfl⟩, by omega⟩
        have hin : PosIn l' (c0 % m) := (hl' _).mpr (.inr ⟨c0, hc0, by omega, by omega⟩)
        obtain ⟨R, g⟩ := ih (c0 % m) (by omega) l' (fun c _ => ⟨c0 % m, hin, Nat.le_refl _⟩)
        exact ⟨((m, k) :: R.1, R.2), good_step hm hm.2 hmin hk' hc0 hcm hck (g.congr hl')⟩
      · exact ⟨([], m), good_flat hm fun c hc => Classical.byContradiction fun q => hd ⟨c, hc, q⟩⟩
    · exact ⟨([], 0), good_nil fun c hc => hn ⟨c, hc⟩⟩
theorem good_ex (l : List Nat) : ∃ R : Row, Good (PosIn l) R.1 R.2 := by
  by_cases hn : ∃ c, PosIn l c
  · obtain ⟨c, hc⟩ := hn
    obtain ⟨m, hm, hmin⟩ := min_of hc
    exact good_exists m l fun c _ => ⟨m, hm, Nat.le_refl _⟩
  · exact ⟨([], 0), good_nil fun c hc => hn ⟨c, hc⟩⟩
/-- the row of the closing of some counts -/
noncomputable def clRow (l : List Nat) : Row := Classical.choose (good_ex l)
theorem clRow_good (l : List Nat) : Good (PosIn l) (clRow l).1 (clRow l).2 := Classical.choose_spec (good_ex l)
theorem clRow_row (l : List Nat) : RowOf (clRow l) (Cl (PosIn l)) := (clRow_good l).row
theorem clRow_eq {l : List Nat} {r : Runs} {e : Nat} (g : Good (PosIn l) r e) : clRow l = (r, e) := (clRow_row l).uniq (R' := (r, e)) g.row
/-- counts of 0 tell nothing -/
theorem cl_pos (l : List Nat) (n : Nat) : Cl (PosIn l) n ↔ Cl (fun c => c ∈ l) n := by
  constructor
  · intro h; exact Cl.mono (fun x hx => Cl.base hx.1) h
  · intro h
    refine Cl.mono (fun x hx => ?_) h
    by_cases hp : 0 < x
    · exact Cl.base ⟨hx, hp⟩
    · rw [show x = 0 by omega]; exact (Cl.closed _).zero
/-- two lists that tell the same have the same row -/
theorem clRow_congr {l l' : List Nat} (h1 : ∀ c, c ∈ l → Cl (fun c => c ∈ l') c) (h2 : ∀ c, c ∈ l' → Cl (fun c => c ∈ l) c) : clRow l = clRow l' := by
  refine (clRow_row l).uniq ((clRow_row l').congr fun n => ?_)
  rw [cl_pos, cl_pos]
  exact ⟨Cl.mono h2, Cl.mono h1⟩
theorem clRow_mem {l l' : List Nat} (h : ∀ c, c ∈ l ↔ c ∈ l') : clRow l = clRow l' := clRow_congr (fun c hc => Cl.base ((h c).mp hc)) fun c hc => Cl.base ((h c).mpr hc)
/-! ### what is in both -/
noncomputable def bothRow (Y Z : Row) : Row :=
  if Y.2 = 0 ∨ Z.2 = 0 then ([], 0) else (runsOf ((gapsL ((inL Y.1 Y.2 (lawBound (far Y.1 + far Z.1) (Nat.lcm Y.2 Z.2))).filter fun x => within Z.1 Z.2 x)).filter fun x => decide (Nat.lcm Y.2 Z.2 < x)), Nat.lcm Y.2 Z.2)
theorem flat0 {R : Row} (v : VR R) (h : R.2 = 0) : R = ([], 0) := by
  obtain ⟨r, e⟩ := R
  have h : e = 0 := h
  subst h
  by_cases hr : r = []
  · rw [hr]
  · exact absurd (end_pos v hr) (Nat.lt_irrefl _)
theorem in0 (n : Nat) : InR ([], 0) n ↔ n = 0 := by simp [InR, within]
theorem bothRow_row {Y Z : Row} (vy : VR Y) (vz : VR Z) : RowOf (bothRow Y Z) (fun n => InR Y n ∧ InR Z n) := by
  unfold bothRow
  by_cases h : Y.2 = 0 ∨ Z.2 = 0
  · rw [if_pos h]
    refine ⟨trivial, fun n => ?_⟩
    have : within [] 0 n = true ↔ n = 0 := in0 n
    rw [this]
    rcases h with h | h
    · rw [flat0 vy h, in0]
      exact ⟨fun e => ⟨e, by rw [e]; exact (valid_closed vz).zero⟩, fun e => e.1⟩
    · rw [flat0 vz h, in0]
      exact ⟨fun e => ⟨by rw [e]; exact (valid_closed vy).zero, e⟩, fun e => e.2⟩
  · rw [if_neg h]
    have hy : 0 < Y.2 := Nat.pos_of_ne_zero fun z => h (.inl z)
    have hz : 0 < Z.2 := Nat.pos_of_ne_zero fun z => h (.inr z)
    refine law_both vy vz hy hz (f := far Y.1 + far Z.1) (by omega) (List.Pairwise.filter _ (inL_asc vy)) (fun x => ?_)
    rw [List.mem_filter, inL_mem vy]
    unfold Both
    constructor
    · rintro ⟨⟨a, b⟩, c⟩; exact ⟨⟨a, c⟩, b⟩
    · rintro ⟨⟨a, c⟩, b⟩; exact ⟨⟨a, b⟩, c⟩
theorem bothRow_eq {Y Z M : Row} (vy : VR Y) (vz : VR Z) (h : RowOf M (fun n => InR Y n ∧ InR Z n)) : M = bothRow Y Z := h.uniq (bothRow_row vy vz)
theorem bothRow_end {Y Z : Row} (vy : VR Y) (vz : VR Z) : (bothRow Y Z).2 = Nat.lcm Y.2 Z.2 := by
  unfold bothRow
  by_cases h : Y.2 = 0 ∨ Z.2 = 0
  · rw [if_pos h]
    rcases h with h | h
    · rw [h, Nat.lcm_zero_left]
    · rw [h, Nat.lcm_zero_right]
  · rw [if_neg h]
theorem bothRow_far {Y Z : Row} (vy : VR Y) (vz : VR Z) : far (bothRow Y Z).1 ≤ max (far Y.1) (far Z.1) + Nat.lcm Y.2 Z.2 := by
  have h := bothRow_row vy vz
  have e := bothRow_end vy vz
  generalize hM : bothRow Y Z = M at *
  obtain ⟨r, e'⟩ := M
  have e : e' = Nat.lcm Y.2 Z.2 := e
  subst e
  exact both_row_far vy vz h
/-! ### a set and what two others share -/
def startsR (R : Row) : List Nat := starts R.1 R.2
def tellersR (R : Row) : List Nat := tellers R.1 R.2
noncomputable def togR (X M : Row) : Row := clRow (startsR X ++ startsR M)
theorem cl_starts {X M : Row} (vx : VR X) (vm : VR M) {l : List Nat} (h1 : ∀ c ∈ l, InR X c ∨ InR M c) (h2 : ∀ S : Nat → Prop, Closed S → (∀ c ∈ l, S c) → (∀ n, InR X n → S n) ∧ ∀ n, InR M n → S n) (n : Nat) :
    Cl (PosIn l) n ↔ Cl (fun n => InR X n ∨ InR M n) n := by
  rw [cl_pos]
  constructor
  · intro h; exact Cl.mono (fun x hx => Cl.base (h1 x hx)) h
  · intro h
    have := h2 (Cl fun c => c ∈ l) (Cl.closed _) (fun c hc => Cl.base hc)
    exact Cl.mono (fun x hx => hx.elim (this.1 x) (this.2 x)) h
theorem togR_row {X M : Row} (vx : VR X) (vm : VR M) : RowOf (togR X M) (Cl fun n => InR X n ∨ InR M n) := by
  refine (clRow_row _).congr (cl_starts vx vm (fun c hc => ?_) fun S cS h => ⟨?_, ?_⟩)
  · rcases List.mem_append.mp hc with hc | hc
    · exact .inl (starts_in vx c hc)
    · exact .inr (starts_in vm c hc)
  · exact starts_all vx cS fun x hx => h x (List.mem_append_left _ hx)
  · exact starts_all vm cS fun x hx => h x (List.mem_append_right _ hx)
/-- the program's way to it -/
theorem togR_tellers {X M : Row} (vx : VR X) (vm : VR M) : clRow (tellersR X ++ tellersR M) = togR X M := by
  refine RowOf.uniq (S := Cl fun n => InR X n ∨ InR M n) ((clRow_row _).congr (cl_starts vx vm (fun c hc => ?_) fun S cS h => ⟨?_, ?_⟩)) (togR_row vx vm)
  · rcases List.mem_append.mp hc with hc | hc
    · exact .inl (tellers_in vx c hc)
    · exact .inr (tellers_in vm c hc)
  · exact tellers_tell vx cS fun x hx => h x (List.mem_append_left _ hx)
  · exact tellers_tell vm cS fun x hx => h x (List.mem_append_right _ hx)
noncomputable def updR (X Y Z : Row) : Row := togR X (bothRow Y Z)
theorem updR_row {X Y Z : Row} (vx : VR X) (vy : VR Y) (vz : VR Z) : RowOf (updR X Y Z) (Cl fun n => InR X n ∨ (InR Y n ∧ InR Z n)) := by
  have vb := bothRow_row vy vz
  refine (togR_row vx vb.ok).congr fun n => ?_
  have : (fun n => InR X n ∨ InR (bothRow Y Z) n) = fun n => InR X n ∨ (InR Y n ∧ InR Z n) := by
    funext n
    refine propext ?_
    rw [show InR (bothRow Y Z) n ↔ _ from vb.mem n]
  rw [this]
abbrev R3 := Row × Row × Row
noncomputable def turnR (x : R3) : R3 :=
  let a := updR x.1 x.2.1 x.2.2
  let b := updR x.2.1 a x.2.2
  (a, b, updR x.2.2 a b)
noncomputable def stR (x : R3) : Nat → R3
  | 0 => x
  | t + 1 => turnR (stR x t)
structure V3 (x : R3) : Prop where
  a : VR x.1
  b : VR x.2.1
  c : VR x.2.2
theorem V3.turn {x : R3} (v : V3 x) : V3 (turnR x) := by
  have va := (updR_row v.a v.b v.c).ok
  have vb := (updR_row v.b va v.c).ok
  exact ⟨va, vb, (updR_row v.c va vb).ok⟩
theorem V3.st {x : R3} (v : V3 x) : ∀ t, V3 (stR x t)
  | 0 => v
  | t + 1 => (v.st t).turn
def at3 (x : R3) (p : Fin 3) : Row := match p with | 0 => x.1 | 1 => x.2.1 | 2 => x.2.2
theorem V3.at {x : R3} (v : V3 x) (p : Fin 3) : VR (at3 x p) := match p with | 0 => v.a | 1 => v.b | 2 => v.c
theorem at3_ext {x y : R3} (h : ∀ p, at3 x p = at3 y p) : x = y := by
  have h0 := h 0
  have h1 := h 1
  have h2 := h 2
  exact Prod.ext h0 (Prod.ext h1 h2)
/-- where the turns begin -/
noncomputable def start3 (l0 l1 l2 : List Nat) : R3 := (clRow l0, clRow l1, clRow l2)
def gens (l0 l1 l2 : List Nat) : Tri := fun p n => n ∈ (match p with | 0 => l0 | 1 => l1 | 2 => l2)
theorem start3_v (l0 l1 l2 : List Nat) : V3 (start3 l0 l1 l2) := ⟨(clRow_row l0).ok, (clRow_row l1).ok, (clRow_row l2).ok⟩
theorem start3_in (l0 l1 l2 : List Nat) (p : Fin 3) (n : Nat) : InR (at3 (start3 l0 l1 l2) p) n ↔ Cl (gens l0 l1 l2 p) n := by
  match p with
  | 0 => exact ((clRow_row l0).mem n).trans (cl_pos l0 n)
  | 1 => exact ((clRow_row l1).mem n).trans (cl_pos l1 n)
  | 2 => exact ((clRow_row l2).mem n).trans (cl_pos l2 n)
theorem upd_grow {X Y Z : Row} (vx : VR X) (vy : VR Y) (vz : VR Z) {n : Nat} (h : InR X n ∨ (InR Y n ∧ InR Z n)) : InR (updR X Y Z) n := ((updR_row vx vy vz).mem n).mpr (Cl.base h)
theorem upd_below {X Y Z : Row} (vx : VR X) (vy : VR Y) (vz : VR Z) {S : Nat → Prop} (c : Closed S) (h1 : ∀ n, InR X n → S n) (h2 : ∀ n, InR Y n → InR Z n → S n) {n : Nat} (h : InR (updR X Y Z) n) : S n :=
  Cl.least c (fun x hx => hx.elim (h1 x) fun q => h2 x q.1 q.2) (((updR_row vx vy vz).mem n).mp h)
theorem turns_of (l0 l1 l2 : List Nat) : Turns (gens l0 l1 l2) (fun t p n => InR (at3 (stR (start3 l0 l1 l2) t) p) n) := by
  have v0 := start3_v l0 l1 l2
  have F := lst_sol (gens l0 l1 l2)
  refine ⟨fun t p => valid_closed ((v0.st t).at p), fun p n h => (start3_in l0 l1 l2 p n).mpr (Cl.base h), fun t p n h => ?_, fun t p n h1 h2 => ?_, fun t => ?_⟩
  · have v := v0.st t
    have va := (updR_row v.a v.b v.c).ok
    have vb := (updR_row v.b va v.c).ok
    match p, h with
    | 0, h => exact upd_grow v.a v.b v.c (.inl h)
    | 1, h => exact upd_grow v.b va v.c (.inl h)
    | 2, h => exact upd_grow v.c va vb (.inl h)
  · have v := v0.st t
    have va := (updR_row v.a v.b v.c).ok
    have vb := (updR_row v.b va v.c).ok
    match p, h1, h2 with
    | 0, h1, h2 => exact upd_grow v.a v.b v.c (.inr ⟨h1, h2⟩)
    | 1, h1, h2 => exact upd_grow v.b va v.c (.inr ⟨upd_grow v.a v.b v.c (.inl h2), h1⟩)
    | 2, h1, h2 => exact upd_grow v.c va vb (.inr ⟨upd_grow v.a v.b v.c (.inl h1), upd_grow v.b va v.c (.inl h2)⟩)
  · induction t with
    | zero =>
      intro p n h
      exact Cl.least (F.closed p) (F.base p) ((start3_in l0 l1 l2 p n).mp h)
    | succ t ih =>
      have v := v0.st t
      have va := (updR_row v.a v.b v.c).ok
      have vb := (updR_row v.b va v.c).ok
      have ba : ∀ n, InR (updR (stR (start3 l0 l1 l2) t).1 (stR (start3 l0 l1 l2) t).2.1 (stR (start3 l0 l1 l2) t).2.2) n → Lst (gens l0 l1 l2) 0 n := fun n h =>
        upd_below v.a v.b v.c (F.closed 0) (ih 0) (fun n h1 h2 => F.hand 0 n (ih 1 n h1) (ih 2 n h2)) h
      have bb : ∀ n, InR (updR (stR (start3 l0 l1 l2) t).2.1 (updR (stR (start3 l0 l1 l2) t).1 (stR (start3 l0 l1 l2) t).2.1 (stR (start3 l0 l1 l2) t).2.2) (stR (start3 l0 l1 l2) t).2.2) n → Lst (gens l0 l1 l2) 1 n := fun n h =>
        upd_below v.b va v.c (F.closed 1) (ih 1) (fun n h1 h2 => F.hand 1 n (ih 2 n h2) (ba n h1)) h
      intro p n h
      match p, h with
      | 0, h => exact ba n h
      | 1, h => exact bb n h
      | 2, h => exact upd_below v.c va vb (F.closed 2) (ih 2) (fun n h1 h2 => F.hand 2 n (ba n h1) (bb n h2)) h
/-- at rest a turn changes nothing -/
theorem rest_fix {l0 l1 l2 : List Nat} {t : Nat} (h : Rest (gens l0 l1 l2) (fun p n => InR (at3 (stR (start3 l0 l1 l2) t) p) n)) : turnR (stR (start3 l0 l1 l2) t) = stR (start3 l0 l1 l2) t := by
  have T := turns_of l0 l1 l2
  have v0 := start3_v l0 l1 l2
  refine at3_ext fun p => ?_
  have v1 := (v0.st (t + 1)).at p
  refine (VR.rowOf v1).uniq ((VR.rowOf ((v0.st t).at p)).congr fun n => ?_)
  exact ⟨fun q => T.grow t p n q, fun q => h p n (T.below (t + 1) p n q)⟩
theorem fix_after {x : R3} {t : Nat} (h : turnR (stR x t) = stR x t) : ∀ s, t ≤ s → stR x s = stR x t := by
  intro s hs
  induction s with
  | zero => rw [show t = 0 by omega]
  | succ s ih =>
    by_cases e : t = s + 1
    · rw [e]
    · rw [show stR x (s + 1) = turnR (stR x s) from rfl, ih (by omega), h]
/-! ### how great the numbers become -/
theorem startsR_le {R : Row} (v : VR R) : ∀ c ∈ startsR R, c ≤ far R.1 + R.2 := starts_le v
theorem end_le {R : Row} (v : VR R) {n : Nat} (hn : InR R n) (hp : 0 < n) : R.2 ≤ n ∧ 0 < R.2 := by
  have := end_dvd v n hn
  exact ⟨Nat.le_of_dvd hp this, Nat.pos_of_dvd_of_pos this hp⟩
theorem fstep_start (R : Row) : fstep R.1 R.2 ∈ startsR R := by
  obtain ⟨r, e⟩ := R
  cases r with
  | nil => simp [startsR, starts, fstep]
  | cons p r => obtain ⟨s, t⟩ := p; simp [startsR, starts, fstep]
theorem upd_far {X Y Z : Row} {N : Nat} (vx : VR X) (vy : VR Y) (vz : VR Z) (hx : far X.1 ≤ N) (hy : far Y.1 ≤ N) (hz : far Z.1 ≤ N) (ey : Y.2 ≤ 24) (ez : Z.2 ≤ 24) {d : Nat} (hd : InR X d) (hp : 0 < d) (h24 : d ≤ 24) :
    far (updR X Y Z).1 ≤ N + 1176 := by
  have g := clRow_good (startsR X ++ startsR (bothRow Y Z))
  have hL : Nat.lcm Y.2 Z.2 ≤ 576 := by
    refine Nat.le_trans ?_ (Nat.mul_le_mul ey ez : Y.2 * Z.2 ≤ 24 * 24)
    by_cases h0 : Y.2 * Z.2 = 0
    · rcases Nat.mul_eq_zero.mp h0 with h | h
      · rw [h, Nat.lcm_zero_left]; exact Nat.zero_le _
      · rw [h, Nat.lcm_zero_right]; exact Nat.zero_le _
    · exact Nat.le_of_dvd (Nat.pos_of_ne_zero h0) (Nat.lcm_dvd_mul _ _)
  have vb := (bothRow_row vy vz).ok
  have bf := bothRow_far vy vz
  have be := bothRow_end vy vz
  have fl := fstep_least vx hd hp
  have ex := end_le vx hd hp
  refine Nat.le_trans (g.far (N + 1152) (fstep X.1 X.2) (fun c hc => ?_) ⟨List.mem_append_left _ (fstep_start X), fl.2⟩) (by omega)
  rcases List.mem_append.mp hc.1 with hc | hc
  · have := startsR_le vx c hc; omega
  · have := startsR_le vb c hc; omega
structure Small (R : Row) : Prop where
  v : VR R
  far : far R.1 ≤ 60000
  en : R.2 ≤ 576
structure Fine (N : Nat) (R : Row) : Prop where
  v : VR R
  far : far R.1 ≤ N
  en : R.2 ≤ 24
  has : ∃ d, 0 < d ∧ d ≤ 24 ∧ InR R d
theorem upd_fine {X Y Z : Row} {N : Nat} (hx : Fine N X) (hy : Fine N Y) (hz : Fine N Z) : Fine (N + 1176) (updR X Y Z) := by
  obtain ⟨d, h1, h2, h3⟩ := hx.has
  have v := (updR_row hx.v hy.v hz.v).ok
  have h4 := upd_grow hx.v hy.v hz.v (.inl h3)
  have := end_le v h4 h1
  exact ⟨v, upd_far hx.v hy.v hz.v hx.far hy.far hz.far hy.en hz.en h3 h1 h2, by omega, d, h1, h2, h4⟩
theorem Fine.mono {N M : Nat} {R : Row} (h : Fine N R) (k : N ≤ M) : Fine M R := ⟨h.v, Nat.le_trans h.far k, h.en, h.has⟩
theorem turn_fine {x : R3} {N : Nat} (h : ∀ p, Fine N (at3 x p)) : ∀ p, Fine (N + 3528) (at3 (turnR x) p) := by
  have a := upd_fine (h 0) (h 1) (h 2)
  have b := upd_fine ((h 1).mono (Nat.le_add_right _ 1176)) a ((h 2).mono (Nat.le_add_right _ 1176))
  have c := upd_fine ((h 2).mono (Nat.le_add_right _ (1176 + 1176))) (a.mono (M := N + (1176 + 1176)) (by omega)) b
  intro p
  match p with
  | 0 => exact a.mono (by omega)
  | 1 => exact b.mono (by omega)
  | 2 => exact c.mono (by omega)
theorem st_fine {x : R3} {N : Nat} (h : ∀ p, Fine N (at3 x p)) : ∀ t p, Fine (N + 3528 * t) (at3 (stR x t) p)
  | 0 => h
  | t + 1 => fun p => (turn_fine (st_fine h t) p).mono (by omega)
theorem clRow_far {l : List Nat} (h : ∀ c ∈ l, c ≤ 24) : far (clRow l).1 ≤ 48 ∧ (clRow l).2 ≤ 24 := by
  have g := clRow_good l
  by_cases hn : ∃ c, PosIn l c
  · obtain ⟨c, hc⟩ := hn
    have h1 := g.far 24 c (fun c hc => h c hc.1) hc
    have h2 := h c hc.1
    have h3 := end_le (R := clRow l) g.row.ok ((g.row.mem c).mpr (Cl.base hc)) hc.2
    omega
  · rw [clRow_eq (good_nil fun c hc => hn ⟨c, hc⟩)]
    exact ⟨Nat.zero_le _, Nat.zero_le _⟩
theorem lcm_le24 {a b : Nat} (ha : a ≤ 24) (hb : b ≤ 24) : Nat.lcm a b ≤ 576 := by
  refine Nat.le_trans ?_ (Nat.mul_le_mul ha hb : _ ≤ 24 * 24)
  by_cases h0 : a * b = 0
  · rcases Nat.mul_eq_zero.mp h0 with h | h
    · rw [h, Nat.lcm_zero_left]; exact Nat.zero_le _
    · rw [h, Nat.lcm_zero_right]; exact Nat.zero_le _
  · exact Nat.le_of_dvd (Nat.pos_of_ne_zero h0) (Nat.lcm_dvd_mul _ _)
theorem lcm_cases {a b x y : Nat} (ha : a ≤ 24) (hb : b ≤ 24) (hx : x = 0 ∨ x = a ∨ x = b ∨ x = Nat.lcm a b) (hy : y = 0 ∨ y = a ∨ y = b ∨ y = Nat.lcm a b) : Nat.lcm x y ≤ 576 := by
  by_cases x0 : x = 0
  · rw [x0, Nat.lcm_zero_left]; exact Nat.zero_le _
  by_cases y0 : y = 0
  · rw [y0, Nat.lcm_zero_right]; exact Nat.zero_le _
  by_cases L0 : Nat.lcm a b = 0
  · have z : ∀ x, x ≠ 0 → (x = 0 ∨ x = a ∨ x = b ∨ x = Nat.lcm a b) → x ≤ 24 := fun x n h => by
      rcases h with h | h | h | h <;> omega
    exact lcm_le24 (z x x0 hx) (z y y0 hy)
  · have z : ∀ x, x ≠ 0 → (x = 0 ∨ x = a ∨ x = b ∨ x = Nat.lcm a b) → x ∣ Nat.lcm a b := fun x n h => by
      rcases h with h | h | h | h
      · exact absurd h n
      · rw [h]; exact Nat.dvd_lcm_left a b
      · rw [h]; exact Nat.dvd_lcm_right a b
      · rw [h]; exact Nat.dvd_refl _
    exact Nat.le_trans (Nat.le_of_dvd (Nat.pos_of_ne_zero L0) (Nat.lcm_dvd (z x x0 hx) (z y y0 hy))) (lcm_le24 ha hb)
theorem end_zero {R : Row} (v : VR R) (h : ∀ n, InR R n → n = 0) : R.2 = 0 := by
  have := h (far R.1 + R.2) ((far_all v _ (Nat.le_add_right _ _)).mpr (by
    rw [Nat.add_mod_right]
    exact Nat.mod_eq_zero_of_dvd (end_dvd v _ (far_in v))))
  omega
/-- all that the walks ask: the rows of every turn are small, and the fourteenth turn is at rest -/
theorem turns_all (l0 l1 l2 : List Nat) (h0 : ∀ c ∈ l0, c ≤ 24) (h1 : ∀ c ∈ l1, c ≤ 24) (h2 : ∀ c ∈ l2, c ≤ 24) :
    (∀ t p, Small (at3 (stR (start3 l0 l1 l2) t) p)) ∧ turnR (stR (start3 l0 l1 l2) 14) = stR (start3 l0 l1 l2) 14 ∧
    ∀ t t' p q, Nat.lcm (at3 (stR (start3 l0 l1 l2) t) p).2 (at3 (stR (start3 l0 l1 l2) t') q).2 ≤ 576 := by
  have T := turns_of l0 l1 l2
  have v0 := start3_v l0 l1 l2
  have hl : ∀ p, ∀ c, gens l0 l1 l2 p c → c ≤ 24 := fun p c hc => by
    match p, hc with
    | 0, hc => exact h0 c hc
    | 1, hc => exact h1 c hc
    | 2, hc => exact h2 c hc
  have f0 : ∀ p, far (at3 (start3 l0 l1 l2) p).1 ≤ 48 ∧ (at3 (start3 l0 l1 l2) p).2 ≤ 24 := fun p => by
    match p with
    | 0 => exact clRow_far h0
    | 1 => exact clRow_far h1
    | 2 => exact clRow_far h2
  by_cases hall : ∀ p, ∃ c, gens l0 l1 l2 p c ∧ 0 < c
  · have hF : ∀ p, Fine 48 (at3 (start3 l0 l1 l2) p) := fun p => by
      obtain ⟨c, hc, hp⟩ := hall p
      exact ⟨v0.at p, (f0 p).1, (f0 p).2, c, hp, hl p c hc, T.base p c hc⟩
    have fx := rest_fix (turns_rest T fun p => by
      obtain ⟨c, hc, hp⟩ := hall p
      exact ⟨c, hp, hl p c hc, T.base p c hc⟩)
    refine ⟨fun t p => ?_, fx, fun t t' p q => lcm_le24 (st_fine hF t p).en (st_fine hF t' q).en⟩
    by_cases ht : t ≤ 14
    · have := st_fine hF t p
      exact ⟨this.v, by have := this.far; omega, by have := this.en; omega⟩
    · rw [fix_after fx t (by omega)]
      have := st_fine hF 14 p
      exact ⟨this.v, by have := this.far; omega, by have := this.en; omega⟩
  · obtain ⟨p, hp⟩ := Classical.not_forall.mp hall
    have hz : ∀ n, gens l0 l1 l2 p n → n = 0 := fun n hn => Classical.byContradiction fun q => hp ⟨n, hn, by omega⟩
    have R1 := turns_rest1 T p hz (start3_in l0 l1 l2)
    have fx := rest_fix R1
    have e14 := fix_after fx 14 (by omega)
    have small0 : ∀ q, Small (at3 (start3 l0 l1 l2) q) := fun q => ⟨v0.at q, by have := (f0 q).1; omega, by have := (f0 q).2; omega⟩
    obtain ⟨n1, n2⟩ : p + 1 ≠ p ∧ p + 2 ≠ p := by
      match p with
      | 0 | 1 | 2 => decide
    have any3 : ∀ q : Fin 3, q = p ∨ q = p + 1 ∨ q = p + 2 := fun q => by
      match p, q with
      | 0, 0 | 0, 1 | 0, 2 | 1, 0 | 1, 1 | 1, 2 | 2, 0 | 2, 1 | 2, 2 => decide
    obtain ⟨t1, t2, t3, t4⟩ := three p
    have G : Sol (gens l0 l1 l2) (fun q n => if q = p then InR (at3 (start3 l0 l1 l2) (p + 1)) n ∧ InR (at3 (start3 l0 l1 l2) (p + 2)) n else InR (at3 (start3 l0 l1 l2) q) n) := by
      refine ⟨fun q => ?_, fun q n hn => ?_, fun q n h1 h2 => ?_⟩
      · by_cases e : q = p
        · simp only [if_pos e]
          exact both_closed (v0.at (p + 1)) (v0.at (p + 2))
        · simp only [if_neg e]; exact valid_closed (v0.at q)
      · by_cases e : q = p
        · simp only [if_pos e]
          rw [e] at hn
          rw [hz n hn]
          exact ⟨(valid_closed (v0.at (p + 1))).zero, (valid_closed (v0.at (p + 2))).zero⟩
        · simp only [if_neg e]; exact T.base q n hn
      · rcases any3 q with rfl | rfl | rfl
        · simp only [if_true]
          simp only [if_neg n1] at h1
          simp only [if_neg n2] at h2
          exact ⟨h1, h2⟩
        · simp only [if_neg n1]
          rw [t2] at h2
          simp only [if_true] at h2
          exact h2.1
        · simp only [if_neg n2]
          rw [t3] at h1
          simp only [if_true] at h1
          exact h1.2
    have own : ∀ q, q ≠ p → at3 (stR (start3 l0 l1 l2) 1) q = at3 (start3 l0 l1 l2) q := fun q hq => by
      refine (VR.rowOf ((v0.st 1).at q)).uniq ((VR.rowOf (v0.at q)).congr fun n => ⟨fun h => T.grow 0 q n h, fun h => ?_⟩)
      have := T.below 1 q n h _ G
      simpa only [if_neg hq] using this
    have mid : at3 (stR (start3 l0 l1 l2) 1) p = bothRow (at3 (start3 l0 l1 l2) (p + 1)) (at3 (start3 l0 l1 l2) (p + 2)) := by
      refine bothRow_eq (v0.at (p + 1)) (v0.at (p + 2)) ((VR.rowOf ((v0.st 1).at p)).congr fun n => ⟨fun h => ?_, fun h => T.hand 0 p n h.1 h.2⟩)
      have := T.below 1 p n h _ G
      simpa only [if_true] using this
    have bf := bothRow_far (v0.at (p + 1)) (v0.at (p + 2))
    have be := bothRow_end (v0.at (p + 1)) (v0.at (p + 2))
    have a1 := f0 (p + 1)
    have a2 := f0 (p + 2)
    have hL := lcm_le24 a1.2 a2.2
    have zero : (at3 (start3 l0 l1 l2) p).2 = 0 := end_zero (v0.at p) fun n hn => by
      refine Cl.least (S := fun n => n = 0) ⟨rfl, fun x y z hx hy hz _ _ => by omega⟩ (fun x hx => hz x hx) ((start3_in l0 l1 l2 p n).mp hn)
    have ends : ∀ t q, (at3 (stR (start3 l0 l1 l2) t) q).2 = 0 ∨ (at3 (stR (start3 l0 l1 l2) t) q).2 = (at3 (start3 l0 l1 l2) (p + 1)).2 ∨ (at3 (stR (start3 l0 l1 l2) t) q).2 = (at3 (start3 l0 l1 l2) (p + 2)).2 ∨
        (at3 (stR (start3 l0 l1 l2) t) q).2 = Nat.lcm (at3 (start3 l0 l1 l2) (p + 1)).2 (at3 (start3 l0 l1 l2) (p + 2)).2 := fun t q => by
      by_cases ht : t = 0
      · rw [ht]
        rcases any3 q with h | h | h
        · left; rw [h]; exact zero
        · right; left; rw [h]; rfl
        · right; right; left; rw [h]; rfl
      · rw [fix_after fx t (by omega)]
        rcases any3 q with h | h | h
        · right; right; right; rw [h, mid, be]
        · right; left; rw [h, own _ n1]
        · right; right; left; rw [h, own _ n2]
    refine ⟨fun t q => ?_, by rw [e14]; exact fx, fun t t' q q' => lcm_cases a1.2 a2.2 (ends t q) (ends t' q')⟩
    by_cases ht : t = 0
    · rw [ht]; exact small0 q
    · rw [fix_after fx t (by omega)]
      rcases any3 q with h | h | h
      · rw [h]
        refine ⟨(v0.st 1).at p, ?_, ?_⟩
        · rw [mid]; omega
        · rw [mid, be]; exact hL
      · rw [h, own _ n1]; exact small0 _
      · rw [h, own _ n2]; exact small0 _
end Bfb
end
section
set_option Elab.async false
set_option linter.all false
set_option maxRecDepth 100000
namespace Bw
open PySem PySem.Spec PyProof.Rows L2 Bfb
local macro_rules | `(tactic| walk_at "ex") => `(tactic| first
  | assumption
  | exact Ex.refl _
  | (refine Ex.trans ?_ (by assumption); walk_at "ex"))
local macro_rules | `(tactic| walk_at "om") => `(tactic| first | omega | assumption | (left; constructor <;> omega) | (right; constructor <;> omega) | decide)
local macro_rules | `(tactic| walk_at "ln") => `(tactic| first | decide | (simp only [List.length_cons, List.length_nil, List.length_append, List.length_map]; omega))
local macro_rules | `(tactic| walk_at "rd") => `(tactic| first
  | with_reducible exact rd_plus
  | with_reducible exact rd_sub
  | with_reducible exact rd_lt
  | with_reducible exact rd_le
  | with_reducible exact rd_gt
  | with_reducible exact rd_ge
  | with_reducible exact rd_eqI
  | with_reducible exact rd_neI
  | ((with_reducible apply rd_eqD); rfl; rfl)
  | ((with_reducible apply rd_neD); rfl; rfl)
  | ((with_reducible apply rd_mul); walk_at "om")
  | ((with_reducible apply rd_div); walk_at "om"; walk_at "om")
  | ((with_reducible apply rd_mod); walk_at "om")
  | ((with_reducible apply rd_divW); walk_at "om"; walk_at "om")
  | ((with_reducible apply rd_ixT); rfl)
  | ((with_reducible apply rd_ixL); rfl)
  | with_reducible exact rd_isNi
  | with_reducible exact rd_isNn
  | with_reducible exact rd_isNt
  | with_reducible exact rd_notNn)
local macro_rules | `(tactic| walk_at "ev") => `(tactic| first
  | with_reducible exact evd_int
  | ((with_reducible apply evd_varI); rfl)
  | ((with_reducible apply evd_varB); rfl)
  | ((with_reducible apply evd_var); rfl; assumption; walk_at "ex")
  | with_reducible exact evd_bl
  | with_reducible exact evd_non
  | with_reducible exact evd_str
  | ((with_reducible apply evd_op); walk_at "ev"; walk_at "ev"; walk_at "rd")
  | ((with_reducible apply evd_tup); walk_at "ea"; walk_at "ln")
  | ((with_reducible apply evd_lst); walk_at "ea"; walk_at "ln")
  | ((with_reducible apply evd_isInt); walk_at "ev")
  | ((with_reducible apply evd_isBool); walk_at "ev")
  | ((with_reducible apply evd_isTuple); walk_at "ev")
  | ((with_reducible apply evd_cb); walk_at "ea"; walk_at "rc")
  | with_reducible exact evd_neg1
  | ((with_reducible apply evd_notV); walk_at "ev")
  | ((with_reducible apply evd_call); walk_at "ea"; assumption))
local macro_rules | `(tactic| walk_at "ea") => `(tactic| first
  | with_reducible exact evda_nil
  | ((with_reducible apply evda_cons); walk_at "ev"; walk_at "ea")
  | ((with_reducible apply evda_starT); walk_at "ev"; walk_at "ea")
  | ((with_reducible apply evda_starL); walk_at "ev"; walk_at "ea"))
local macro_rules | `(tactic| walk_at "rc") => `(tactic| first
  | with_reducible exact rc_len
  | with_reducible exact rc_lenT
  | with_reducible exact rc_tupL
  | with_reducible exact rc_tupT
  | with_reducible exact rc_listL
  | with_reducible exact rc_listT
  | with_reducible exact rc_min2
  | with_reducible exact rc_max2
  | with_reducible exact rc_int1
  | with_reducible exact rc_abs
  | with_reducible exact rc_all
  | with_reducible exact rc_sum)
local macro_rules | `(tactic| walk_at "et") => `(tactic| first
  | ((with_reducible apply et_test (K := ‹PySem.W.Frag›)); walk_at "ev")
  | ((with_reducible apply et_B (K := ‹PySem.W.Frag›)); walk_at "ev")
  | ((with_reducible apply et_not); walk_at "et"))

variable {P : Program} {w : World} {K : PySem.W.Frag} {mg : Str → Option Value} {base : Heap}
abbrev s_is_integer : Stmt := topS 5
abbrev N_is_integer : List Str := ["value"]
theorem sc_is_integer : FnScope N_is_integer ["value"] (defScope s_is_integer) := ⟨rfl, rfl, rfl, by decide +kernel, rfl, by decide +kernel, by decide +kernel⟩
abbrev s_is_number : Stmt := topS 6
abbrev N_is_number : List Str := ["value"]
theorem sc_is_number : FnScope N_is_number ["value"] (defScope s_is_number) := ⟨rfl, rfl, rfl, by decide +kernel, rfl, by decide +kernel, by decide +kernel⟩
abbrev s_is_index : Stmt := topS 7
abbrev N_is_index : List Str := ["value", "many"]
theorem sc_is_index : FnScope N_is_index ["value", "many"] (defScope s_is_index) := ⟨rfl, rfl, rfl, by decide +kernel, rfl, by decide +kernel, by decide +kernel⟩
abbrev s_is_sequence : Stmt := topS 8
abbrev N_is_sequence : List Str := ["value"]
theorem sc_is_sequence : FnScope N_is_sequence ["value"] (defScope s_is_sequence) := ⟨rfl, rfl, rfl, by decide +kernel, rfl, by decide +kernel, by decide +kernel⟩
abbrev s_common_divisor : Stmt := topS 9
abbrev N_common_divisor : List Str := ["one", "other"]
theorem sc_common_divisor : FnScope N_common_divisor ["one", "other"] (defScope s_common_divisor) := ⟨rfl, rfl, rfl, by decide +kernel, rfl, by decide +kernel, by decide +kernel⟩
abbrev s_common_multiple : Stmt := topS 10
abbrev N_common_multiple : List Str := ["one", "other"]
theorem sc_common_multiple : FnScope N_common_multiple ["one", "other"] (defScope s_common_multiple) := ⟨rfl, rfl, rfl, by decide +kernel, rfl, by decide +kernel, by decide +kernel⟩
abbrev s_is_run : Stmt := topS 12
abbrev N_is_run : List Str := ["value", "one"]
theorem sc_is_run : FnScope N_is_run ["value"] (defScope s_is_run) := ⟨rfl, rfl, rfl, by decide +kernel, rfl, by decide +kernel, by decide +kernel⟩
abbrev s_is_within : Stmt := topS 13
abbrev N_is_within : List Str := ["runs", "end", "count", "left", "step", "times"]
theorem sc_is_within : FnScope N_is_within ["runs", "end", "count"] (defScope s_is_within) := ⟨rfl, rfl, rfl, by decide +kernel, rfl, by decide +kernel, by decide +kernel⟩
abbrev s_is_falling : Stmt := topS 14
abbrev N_is_falling : List Str := ["value", "runs", "end", "run", "step", "times", "steps", "at"]
theorem sc_is_falling : FnScope N_is_falling ["value"] (defScope s_is_falling) := ⟨rfl, rfl, rfl, by decide +kernel, rfl, by decide +kernel, by decide +kernel⟩
abbrev s_checked_falling : Stmt := topS 15
abbrev N_checked_falling : List Str := ["value"]
theorem sc_checked_falling : FnScope N_checked_falling ["value"] (defScope s_checked_falling) := ⟨rfl, rfl, rfl, by decide +kernel, rfl, by decide +kernel, by decide +kernel⟩
def isInt : PyData → Bool
  | .int _ => true
  | _ => false
def isNum : PyData → Bool
  | .int i => decide (0 ≤ i)
  | _ => false
def isIx : PyData → Int → Bool
  | .int i, m => decide (0 ≤ i) && decide (i < m)
  | _, _ => false
def R_integer (ds : List PyData) (d : PyData) : Prop := ∃ x, (∀ z, x ≠ .dict z) ∧ ds = [x] ∧ d = .bool (isInt x)
theorem d_is_integer (F : Fd K mg "is_integer" s_is_integer) (B : Nm mg) : Df P w K mg base "is_integer" 1 ["value"] (spP K R_integer) := by
  refine d_pure F sc_is_integer (fun _ _ _ _ _ _ us hl => match us, hl with | [_], _ => rfl) (by rintro _ _ ⟨x, hx, rfl, rfl⟩; rfl) fun f cdv A outer s H vs ds d Q E hr hds hR k => ?_
  have hu64 := hr.units
  have hu65 := room65 hr
  have hu1 := room1 hr
  obtain ⟨x, hx, rfl, rfl⟩ := hR
  obtain ⟨v0, rfl, h0⟩ := dpa1 hds
  refine ⟨_, (pss_one (ps_ret (pe_and (pe_callB call_isi (by rfl) B.isinstance (by decide +kernel) (pa_cons (pv 0) (pa_cons (pe_bltn (v := .ty "int") (by rfl) B.int (by decide +kernel) rfl) pa_nil))) (pe_one (pe_not (pe_callB call_isi (by rfl) B.isinstance (by decide +kernel) (pa_cons (pv 0) (pa_cons (pe_bltn (v := .ty "bool") (by rfl) B.bool (by decide +kernel) rfl) pa_nil)))))))), ?_⟩
  try dsimp only [cxOf, Cx.nox, Cx.wish]
  refine s_ret K (d := .bool (isInt x)) ?_ fun v H1 e dv => k v H1 (by walk_at "ex") dv
  cases x with
  | dict z => exact absurd rfl (hx z)
  | _ =>
    refine evd_is (evd_andV (by walk_at "ev") fun _ => evd_notV (by walk_at "ev")) ?_
    rfl
def R_number (ds : List PyData) (d : PyData) : Prop := ∃ x, (∀ z, x ≠ .dict z) ∧ ds = [x] ∧ d = .bool (isNum x)
theorem d_is_number (F : Fd K mg "is_number" s_is_number) (B : Nm mg) (D_is_integer : Df P w K mg base "is_integer" 1 ["value"] (spP K R_integer)) : Df P w K mg base "is_number" 2 ["value"] (spP K R_number) := by
  refine d_pure F sc_is_number (fun _ _ _ _ _ _ us hl => match us, hl with | [_], _ => rfl) (by rintro _ _ ⟨x, hx, rfl, rfl⟩; rfl) fun f cdv A outer s H vs ds d Q E hr hds hR k => ?_
  have hu64 := hr.units
  have hu65 := room65 hr
  have hu1 := room1 hr
  obtain ⟨x, hx, rfl, rfl⟩ := hR
  obtain ⟨v0, rfl, h0⟩ := dpa1 hds
  refine ⟨_, (pss_one (ps_ret (pe_and (pe_df D_is_integer (hr.mono (by decide)) (by rfl) (pa_cons (pv 0) pa_nil)) (pe_one (pe_cmpR op_ge (pv 0) pe_int (nomark _)))))), ?_⟩
  try dsimp only [cxOf, Cx.nox, Cx.wish]
  refine s_ret K (d := .bool (isNum x)) ?_ fun v H1 e dv => k v H1 (by walk_at "ex") dv
  cases x with
  | int i =>
    cases dp_int h0
    exact evd_is (evd_andV (evd_call (d := .bool true) (by walk_at "ea") ⟨_, hx, rfl, rfl⟩) fun _ => by walk_at "ev") rfl
  | _ =>
    exact evd_is (evd_andV (b := true) (evd_call (d := .bool false) (by walk_at "ea") ⟨_, hx, rfl, rfl⟩) fun z => nomatch z) rfl
def R_index (ds : List PyData) (d : PyData) : Prop := ∃ x m, (∀ z, x ≠ .dict z) ∧ ds = [x, .int m] ∧ d = .bool (isIx x m)
theorem d_is_index (F : Fd K mg "is_index" s_is_index) (B : Nm mg) (D_is_number : Df P w K mg base "is_number" 2 ["value"] (spP K R_number)) : Df P w K mg base "is_index" 3 ["value", "many"] (spP K R_index) := by
  refine d_pure F sc_is_index (fun _ _ _ _ _ _ us hl => match us, hl with | [_, _], _ => rfl) (by rintro _ _ ⟨x, m, hx, rfl, rfl⟩; rfl) fun f cdv A outer s H vs ds d Q E hr hds hR k => ?_
  have hu64 := hr.units
  have hu65 := room65 hr
  have hu1 := room1 hr
  obtain ⟨x, m, hx, rfl, rfl⟩ := hR
  obtain ⟨v0, v1, rfl, h0, h1⟩ := dpa2 hds
  cases dp_int h1
  refine ⟨_, (pss_one (ps_ret (pe_and (pe_df D_is_number (hr.mono (by decide)) (by rfl) (pa_cons (pv 0) pa_nil)) (pe_one (pe_cmpR op_lt (pv 0) (pv 1) (nomark _)))))), ?_⟩
  try dsimp only [cxOf, Cx.nox, Cx.wish]
  refine s_ret K (d := .bool (isIx x m)) ?_ fun v H1 e dv => k v H1 (by walk_at "ex") dv
  cases x with
  | int i =>
    cases dp_int h0
    exact evd_is (evd_andV (evd_call (d := .bool (isNum (.int i))) (by walk_at "ea") ⟨_, hx, rfl, rfl⟩) fun _ => by walk_at "ev") rfl
  | _ =>
    exact evd_is (evd_andV (b := true) (evd_call (d := .bool false) (by walk_at "ea") ⟨_, hx, rfl, rfl⟩) fun z => nomatch z) rfl
/-- a list or tuple, by the value's kind -/
def sp_sequence (K : PySem.W.Frag) : Sp := fun vs H Q _ => ∃ v T a b, vs = [v] ∧ (∀ H', Ex H H' → TyX K H' v (.type T)) ∧ kitB T "list" = some a ∧ kitB T "tuple" = some b ∧ ∀ H', Ex H H' → Q (.bl (a || b)) H'
theorem d_is_sequence (F : Fd K mg "is_sequence" s_is_sequence) (B : Nm mg) : Df P w K mg base "is_sequence" 1 ["value"] (sp_sequence K) := by
  refine d_any F sc_is_sequence (fun _ _ _ _ _ _ us hl => match us, hl with | [_], _ => rfl) (by rintro _ _ _ _ ⟨v, T, a, b, rfl, _⟩; rfl) fun f cdv A outer s H vs Q E hr h => ?_
  obtain ⟨v, T, a, b, rfl, ht, ha, hb, q⟩ := h
  refine ⟨_, (pss_one (ps_ret (pe_callB call_isiT (by rfl) B.isinstance (by decide +kernel) (pa_cons (pv 0) (pa_cons (pe_tup (pa_cons (pe_bltn (v := .ty "list") (by rfl) B.list (by decide +kernel) rfl) (pa_cons (pe_bltn (v := .ty "tuple") (by rfl) B.tuple (by decide +kernel) rfl) pa_nil))) pa_nil))))), ?_⟩
  try dsimp only [cxOf, Cx.nox, Cx.wish]
  refine ⟨v, rfl, by show 2 ≤ sizeLine; decide, fun p np => ⟨v, p, [.ty "list", .ty "tuple"], .type T, [.type "list", .type "tuple"], a || b, rfl, upd_same, .cons (.ty _) (.cons (.ty _) .nil), ht _ (Ex.new np),
    kitAny_cons (b := a) (r := a || b) (kit_ty ha) (fun z => kitAny_cons (b := b) (kit_ty hb) (fun z2 => by subst z; subst z2; rfl) (fun z2 => by subst z2; cases a <;> rfl)) (fun z => by subst z; rfl), ?_⟩⟩
  exact q _ (Ex.new np)
/-! ### divisors -/
def R_divisor (ds : List PyData) (d : PyData) : Prop := ∃ a b : Nat, ds = [.int a, .int b] ∧ d = .int (Nat.gcd a b : Nat)
theorem d_common_divisor (F : Fd K mg "common_divisor" s_common_divisor) (B : Nm mg) : Df P w K mg base "common_divisor" 1 ["one", "other"] (spP K R_divisor) := by
  refine d_pure F sc_common_divisor (fun _ _ _ _ _ _ us hl => match us, hl with | [_, _], _ => rfl) (by rintro _ _ ⟨a, b, rfl, rfl⟩; rfl) fun f cdv A outer s H vs ds d Q E hr hds hR k => ?_
  have hu64 := hr.units
  have hu65 := room65 hr
  have hu1 := room1 hr
  obtain ⟨a, b, rfl, rfl⟩ := hR
  obtain ⟨v0, v1, rfl, h0, h1⟩ := dpa2 hds
  cases dp_int h0
  cases dp_int h1
  refine ⟨_, (pss_cons (ps_while PassesOwn.never (pt_cmpR (op_neK (K := K) hu64 rfl) (pv 1) pe_int (nomark _)) (pss_one (ps_par (i := 0) (j := 1) (by rfl) sc_common_divisor.nd rfl rfl (by decide) rfl rfl (pa_cons (pv 1) (pa_cons (pe_op op_modN (pv 0) (pv 1)) pa_nil)) (by rfl))))
      (pss_one (ps_ret (pv 0)))), ?_⟩
  try dsimp only [cxOf, Cx.nox, Cx.wish]
  refine q_while (fun m σ' H' => ∃ x y : Nat, y = m ∧ σ' = [some (.int x), some (.int y)] ∧ Ex H H' ∧ Nat.gcd x y = Nat.gcd a b) b ⟨a, b, rfl, rfl, Ex.refl _, rfl⟩ ?_
  rintro m σ' H' ⟨x, y, rfl, rfl, e1, hg⟩
  refine ⟨!decide ((y : Int) = 0), by walk_at "et", fun hy H1 e2 => ?_, fun hy H1 e2 => ?_⟩
  · have hy : (y : Int) ≠ 0 := by simpa using hy
    have hy' : 0 < y := by omega
    refine s_par K (d := .int (y : Int)) (e := .int ((x : Int).fmod y)) (by walk_at "ea") fun v u H2 e3 dv du => ?_
    cases dp_int dv
    cases dp_int du
    rw [fmodN]
    refine ⟨x % y, Nat.mod_lt _ hy', y, x % y, rfl, rfl, by walk_at "ex", ?_⟩
    rw [← hg, Nat.gcd_comm x y, Nat.gcd_comm y (x % y), ← Nat.gcd_rec]
  · have hy : y = 0 := by have := of_decide_eq_true (by simpa using hy); omega
    subst hy
    rw [Nat.gcd_zero_right] at hg
    exact s_ret K (d := .int (x : Int)) (by walk_at "ev") fun v H2 e3 dv => k v H2 (by walk_at "ex") (by rw [← hg]; exact dv)
def R_multiple (ds : List PyData) (d : PyData) : Prop := ∃ a b : Nat, 0 < a ∧ a < 2 ^ 30 ∧ b < 2 ^ 60 ∧ ds = [.int a, .int b] ∧ d = .int (Nat.lcm a b : Nat)
theorem d_common_multiple (F : Fd K mg "common_multiple" s_common_multiple) (B : Nm mg) (D_common_divisor : Df P w K mg base "common_divisor" 1 ["one", "other"] (spP K R_divisor)) : Df P w K mg base "common_multiple" 2 ["one", "other"] (spP K R_multiple) := by
  refine d_pure F sc_common_multiple (fun _ _ _ _ _ _ us hl => match us, hl with | [_, _], _ => rfl) (by rintro _ _ ⟨a, b, ha, hb, hc, rfl, rfl⟩; rfl) fun f cdv A outer s H vs ds d Q E hr hds hR k => ?_
  have hu64 := hr.units
  have hu65 := room65 hr
  have hu1 := room1 hr
  obtain ⟨a, b, ha, hb, hc, rfl, rfl⟩ := hR
  obtain ⟨v0, v1, rfl, h0, h1⟩ := dpa2 hds
  cases dp_int h0
  cases dp_int h1
  refine ⟨_, (pss_one (ps_ret (pe_op op_mul (pe_op op_fdivN (pv 0) (pe_df D_common_divisor (hr.mono (by decide)) (by rfl) (pa_cons (pv 0) (pa_cons (pv 1) pa_nil)))) (pv 1)))), ?_⟩
  try dsimp only [cxOf, Cx.nox, Cx.wish]
  have hg : 0 < Nat.gcd a b := Nat.gcd_pos_of_pos_left b ha
  have hg2 : Nat.gcd a b ≤ a := Nat.gcd_le_left b ha
  have call : EvD K (tCall (spP K R_divisor) [] E0 (tCons (tVar 0) (tCons (tVar 1) tNil))) [some (V.int a), some (.int b)] H (.int (Nat.gcd a b : Nat)) := evd_call (by walk_at "ea") ⟨a, b, rfl, rfl⟩
  refine s_ret K (d := .int (Nat.lcm a b : Nat)) (evd_is (evd_op (evd_op (by walk_at "ev") call (by walk_at "rd")) (by walk_at "ev") (by walk_at "rd")) ?_) fun v H1 e dv => k v H1 (by walk_at "ex") dv
  rw [fdivN]
  have : Nat.lcm a b = a / Nat.gcd a b * b := by
    unfold Nat.lcm
    rw [Nat.mul_comm, Nat.mul_div_assoc _ (Nat.gcd_dvd_left a b), Nat.mul_comm]
  rw [this, Int.natCast_mul]
end Bw
end
section
namespace Bfb
/-! rows: their bounds, their length, what is behind a run -/
structure Ok (R : Row) : Prop where
  v : VR R
  far : far R.1 < 65536
  en : R.2 < 65536
theorem Small.ok {R : Row} (h : Small R) : Ok R := ⟨h.v, by have := h.far; omega, by have := h.en; omega⟩
theorem drop_valid : ∀ {r : Runs} {e : Nat} (i : Nat), Valid r e → Valid (r.drop i) e
  | r, e, 0, v => by simpa using v
  | [], e, i + 1, v => by simpa using v
  | (s, t) :: r, e, i + 1, v => by rw [List.drop_succ_cons]; exact drop_valid i v.2.2.2.2
theorem drop_far : ∀ (r : Runs) (i : Nat), far (r.drop i) ≤ far r
  | r, 0 => by simp
  | [], i + 1 => by simp
  | (s, t) :: r, i + 1 => by
    rw [List.drop_succ_cons]
    exact Nat.le_trans (drop_far r i) (Nat.le_add_left _ _)
theorem drop_cons {r : Runs} {i s t : Nat} (h : r[i]? = some (s, t)) : r.drop i = (s, t) :: r.drop (i + 1) := by
  obtain ⟨hl, hg⟩ := List.getElem?_eq_some_iff.mp h
  rw [List.drop_eq_getElem_cons hl, hg]
/-- what is known of a run -/
structure RunOk (r : Runs) (e i s t : Nat) : Prop where
  t0 : 0 < t
  s0 : 0 < s
  desc : fstep (r.drop (i + 1)) e < s
  ins : within (r.drop (i + 1)) e s = true
  far : s * t ≤ far r
  sle : s ≤ Bfb.far r
  tle : t ≤ Bfb.far r
theorem run_ok {r : Runs} {e i s t : Nat} (v : Valid r e) (h : r[i]? = some (s, t)) : RunOk r e i s t := by
  have v' := drop_valid i v
  have hf := drop_far r i
  rw [drop_cons h] at v' hf
  have h1 : s * t ≤ far r := Nat.le_trans (Nat.le_add_right _ _) hf
  have hs : 0 < s := Nat.lt_trans v'.2.2.1 v'.2.1
  exact ⟨v'.1, hs, v'.2.1, v'.2.2.2.1, h1, Nat.le_trans (Nat.le_mul_of_pos_right _ v'.1) h1, Nat.le_trans (Nat.le_mul_of_pos_left _ hs) h1⟩
/-- two runs on, the step is at most half -/
theorem half_step {s t s2 t2 : Nat} {r : Runs} {e : Nat} (v : Valid ((s, t) :: (s2, t2) :: r) e) : 2 * fstep r e ≤ s := by
  obtain ⟨h1, h2, h3, h4, v2⟩ := v
  obtain ⟨k1, k2, k3, k4, v3⟩ := v2
  simp only [fstep] at h2 h3
  rw [within_c] at h4
  by_cases hlt : s < s2 * t2
  · rw [if_pos hlt] at h4
    have hm : s % s2 = 0 := of_decide_eq_true h4
    obtain ⟨q, hq⟩ := Nat.dvd_of_mod_eq_zero hm
    have : 2 ≤ q := by
      rcases q with _ | _ | q
      · omega
      · omega
      · omega
    have : s2 * 2 ≤ s2 * q := Nat.mul_le_mul_left _ this
    omega
  · rw [if_neg hlt] at h4
    by_cases hz : s - s2 * t2 = 0
    · have e1 : s = s2 * t2 := by omega
      have : 2 ≤ t2 := by
        rcases t2 with _ | _ | t2
        · omega
        · omega
        · omega
      have : s2 * 2 ≤ s2 * t2 := Nat.mul_le_mul_left _ this
      omega
    · have := fstep_least v3 h4 (by omega)
      have : s2 * 1 ≤ s2 * t2 := Nat.mul_le_mul_left _ k1
      omega
theorem len_le : ∀ (k : Nat) {r : Runs} {e : Nat}, Valid r e → fstep r e < 2 ^ (k + 1) → r.length ≤ 2 * k
  | k, [], e, _, _ => Nat.zero_le _
  | 0, (s, t) :: r, e, v, h => by
    have h1 := v.2.1
    have h2 := v.2.2.1
    simp only [fstep] at h
    omega
  | k + 1, [(s, t)], e, v, h => by simp only [List.length_cons, List.length_nil]; omega
  | k + 1, (s, t) :: (s2, t2) :: r, e, v, h => by
    have h1 := half_step v
    have := len_le k (v.2.2.2.2).2.2.2.2 (by
      simp only [fstep] at h
      rw [Nat.pow_succ] at h
      omega)
    simp only [List.length_cons]
    omega
theorem fstep_far {r : Runs} {e : Nat} (v : Valid r e) : fstep r e ≤ far r + e := by
  cases r with
  | nil => simp [fstep, far]
  | cons p r =>
    obtain ⟨s, t⟩ := p
    have := Nat.le_mul_of_pos_right s v.1
    simp only [fstep, far]
    omega
theorem Ok.len {R : Row} (h : Ok R) : R.1.length ≤ 30 := by
  refine len_le 15 h.v ?_
  have hf := h.far
  have he := h.en
  obtain ⟨r, e⟩ := R
  cases r with
  | nil => exact he
  | cons p r =>
    obtain ⟨s, t⟩ := p
    have := Nat.le_mul_of_pos_right s h.v.1
    simp only [fstep]
    simp only [Bfb.far] at hf
    omega
theorem Ok.end0 {R : Row} (h : Ok R) (z : R.2 = 0) : R.1 = [] := by
  have := flat0 h.v z
  rw [this]
theorem starts_len : ∀ (r : Runs) (e : Nat), (starts r e).length = r.length + 1
  | [], _ => rfl
  | (_, _) :: r, e => by simp [starts, starts_len r e]
end Bfb
end
section
set_option Elab.async false
set_option linter.all false
set_option maxRecDepth 100000
namespace Bw
open PySem PySem.Spec PyProof.Rows L2 Bfb
local macro_rules | `(tactic| walk_at "ex") => `(tactic| first
  | assumption
  | exact Ex.refl _
  | (refine Ex.trans ?_ (by assumption); walk_at "ex"))
local macro_rules | `(tactic| walk_at "om") => `(tactic| first | omega | assumption | (left; constructor <;> omega) | (right; constructor <;> omega) | decide)
local macro_rules | `(tactic| walk_at "ln") => `(tactic| first | decide | (simp only [List.length_cons, List.length_nil, List.length_append, List.length_map]; omega))
local macro_rules | `(tactic| walk_at "rd") => `(tactic| first
  | with_reducible exact rd_plus
  | with_reducible exact rd_sub
  | with_reducible exact rd_lt
  | with_reducible exact rd_le
  | with_reducible exact rd_gt
  | with_reducible exact rd_ge
  | with_reducible exact rd_eqI
  | with_reducible exact rd_neI
  | ((with_reducible apply rd_eqD); rfl; rfl)
  | ((with_reducible apply rd_neD); rfl; rfl)
  | ((with_reducible apply rd_mul); walk_at "om")
  | ((with_reducible apply rd_div); walk_at "om"; walk_at "om")
  | ((with_reducible apply rd_mod); walk_at "om")
  | ((with_reducible apply rd_divW); walk_at "om"; walk_at "om")
  | ((with_reducible apply rd_ixT); rfl)
  | ((with_reducible apply rd_ixL); rfl)
  | with_reducible exact rd_isNi
  | with_reducible exact rd_isNn
  | with_reducible exact rd_isNt
  | with_reducible exact rd_notNn)
local macro_rules | `(tactic| walk_at "ev") => `(tactic| first
  | with_reducible exact evd_int
  | ((with_reducible apply evd_varI); rfl)
  | ((with_reducible apply evd_varB); rfl)
  | ((with_reducible apply evd_var); rfl; assumption; walk_at "ex")
  | with_reducible exact evd_bl
  | with_reducible exact evd_non
  | with_reducible exact evd_str
  | ((with_reducible apply evd_op); walk_at "ev"; walk_at "ev"; walk_at "rd")
  | ((with_reducible apply evd_tup); walk_at "ea"; walk_at "ln")
  | ((with_reducible apply evd_lst); walk_at "ea"; walk_at "ln")
  | ((with_reducible apply evd_isInt); walk_at "ev")
  | ((with_reducible apply evd_isBool); walk_at "ev")
  | ((with_reducible apply evd_isTuple); walk_at "ev")
  | ((with_reducible apply evd_cb); walk_at "ea"; walk_at "rc")
  | with_reducible exact evd_neg1
  | ((with_reducible apply evd_notV); walk_at "ev")
  | ((with_reducible apply evd_call); walk_at "ea"; assumption))
local macro_rules | `(tactic| walk_at "ea") => `(tactic| first
  | with_reducible exact evda_nil
  | ((with_reducible apply evda_cons); walk_at "ev"; walk_at "ea")
  | ((with_reducible apply evda_starT); walk_at "ev"; walk_at "ea")
  | ((with_reducible apply evda_starL); walk_at "ev"; walk_at "ea"))
local macro_rules | `(tactic| walk_at "rc") => `(tactic| first
  | with_reducible exact rc_len
  | with_reducible exact rc_lenT
  | with_reducible exact rc_tupL
  | with_reducible exact rc_tupT
  | with_reducible exact rc_listL
  | with_reducible exact rc_listT
  | with_reducible exact rc_min2
  | with_reducible exact rc_max2
  | with_reducible exact rc_int1
  | with_reducible exact rc_abs
  | with_reducible exact rc_all
  | with_reducible exact rc_sum)
local macro_rules | `(tactic| walk_at "et") => `(tactic| first
  | ((with_reducible apply et_test (K := ‹PySem.W.Frag›)); walk_at "ev")
  | ((with_reducible apply et_B (K := ‹PySem.W.Frag›)); walk_at "ev")
  | ((with_reducible apply et_not); walk_at "et"))

variable {P : Program} {w : World} {K : PySem.W.Frag} {mg : Str → Option Value} {base : Heap}
def R_run (ds : List PyData) (d : PyData) : Prop := ∃ s t : Nat, 0 < s ∧ 0 < t ∧ ds = [runD (s, t)] ∧ d = .bool true
theorem num_int (n : Nat) : R_number [.int n] (.bool true) := ⟨.int n, fun _ z => (by cases z), rfl, by simp [isNum]⟩
theorem num_any {x : PyData} (h : ∀ z, x ≠ .dict z) : R_number [x] (.bool (isNum x)) := ⟨_, h, rfl, rfl⟩
theorem d_is_run (F : Fd K mg "is_run" s_is_run) (B : Nm mg) (D_is_number : Df P w K mg base "is_number" 2 ["value"] (spP K R_number)) : Df P w K mg base "is_run" 3 ["value"] (spP K R_run) := by
  refine d_pure F sc_is_run (fun _ _ _ _ _ _ us hl => match us, hl with | [_], _ => rfl) (by rintro _ _ ⟨s, t, h1, h2, rfl, rfl⟩; rfl) fun f cdv A outer s H vs ds d Q E hr hds hR k => ?_
  have hu64 := hr.units
  have hu65 := room65 hr
  have hu1 := room1 hr
  obtain ⟨s, t, h1, h2, rfl, rfl⟩ := hR
  obtain ⟨v0, rfl, h0⟩ := dpa1 hds
  refine ⟨_, (pss_one (ps_ret (pe_and (pe_callB call_isi (by rfl) B.isinstance (by decide +kernel) (pa_cons (pv 0) (pa_cons (pe_bltn (v := .ty "tuple") (by rfl) B.tuple (by decide +kernel) rfl) pa_nil))) (pe_and (pe_cmpR (op_eqK (K := K) hu64 rfl) (pe_callB (call_lenK (K := K) rfl) (by rfl) B.len PySem.boot_len (pa_cons (pv 0) pa_nil)) pe_int (nomark _)) (pe_one (pe_callB (cr_all rfl) (by rfl) B.all (by decide +kernel) (pa_cons (pe_lc (own := [("one", 1)]) rfl sc_is_run.nd (pi_seqK (K := K) rfl (pv 0)) (blkOk_by (own := [("one", 1)]) (N := N_is_run) (sc := defScope s_is_run) (by decide +kernel)) (fun _ _ _ _ _ => (pg_name (i := 1) sc_is_run.nd rfl (.inl rfl))) (fun _ _ _ _ _ => pts_nil) (fun _ _ _ _ _ => (pe_and (pe_df D_is_number (hr.mono (by decide)) (by rfl) (pa_cons (pv 1) pa_nil)) (pe_one (pe_cmpR op_gt (pv 1) pe_int (nomark _)))))) pa_nil))))))), ?_⟩
  try dsimp only [cxOf, Cx.nox, Cx.wish]
  have h0 : Dp K H v0 (.tuple [.int s, .int t]) := h0
  refine s_ret K (d := .bool true) (evd_is (evd_andV (by walk_at "ev") fun _ => evd_andV (by walk_at "ev") fun _ => evd_all (b := false) (ds := [.int s, .int t]) (fun _ => true) (by walk_at "ev") (by walk_at "ln") fun x hx => ?_) rfl) fun v H1 e dv => k v H1 (by walk_at "ex") dv
  refine lct_name (fun v => rfl) fun v H1 e dv => ⟨et_yes, fun _ => ?_⟩
  obtain ⟨n, hn, rfl⟩ : ∃ n : Nat, 0 < n ∧ x = .int n := by
    rcases List.mem_cons.mp hx with rfl | hx
    · exact ⟨s, h1, rfl⟩
    · rw [List.mem_singleton.mp hx]; exact ⟨t, h2, rfl⟩
  cases dp_int dv
  exact evd_is (evd_andV (evd_call (by walk_at "ea") (num_int n)) fun _ => by walk_at "ev") (by simp; omega)
def Sm (r : Runs) : Prop := ∀ p ∈ r, p.1 < 2 ^ 60 ∧ p.2 < 2 ^ 60
theorem _root_.Bfb.Ok.sm {R : Bfb.Row} (h : Ok R) : Sm R.1 := fun p hp => by
  obtain ⟨i, hi⟩ := List.mem_iff_getElem?.mp hp
  obtain ⟨s, t⟩ := p
  have h1 := (run_ok h.v hi).sle
  have h2 := (run_ok h.v hi).tle
  have h3 := h.far
  show s < 2 ^ 60 ∧ t < 2 ^ 60
  omega
theorem drop_sm {r : Runs} (h : Sm r) (i : Nat) : Sm (r.drop i) := fun p hp => h p (List.mem_of_mem_drop hp)
def R_within (ds : List PyData) (d : PyData) : Prop := ∃ (r : Runs) (e c : Nat), Sm r ∧ ds = [runsD r, .int e, .int c] ∧ d = .bool (within r e c)
theorem d_is_within (F : Fd K mg "is_within" s_is_within) (B : Nm mg) : Df P w K mg base "is_within" 1 ["runs", "end", "count"] (spP K R_within) := by
  refine d_pure F sc_is_within (fun _ _ _ _ _ _ us hl => match us, hl with | [_, _, _], _ => rfl) (by rintro _ _ ⟨r, e, c, hsm, rfl, rfl⟩; rfl) fun f cdv A outer s H vs ds d Q E hr hds hR k => ?_
  have hu64 := hr.units
  have hu65 := room65 hr
  have hu1 := room1 hr
  obtain ⟨r, e, c, hsm, rfl, rfl⟩ := hR
  obtain ⟨v0, v1, v2, rfl, h0, h1, h2⟩ := dpa3 hds
  cases dp_int h1
  cases dp_int h2
  refine ⟨_, (pss_cons (ps_set (i := 3) sc_is_within.nd rfl (.inl rfl) (pv 2))
      (pss_cons (ps_for PassesOwn.never rfl (pi_seqK (K := K) rfl (pv 0)) (pg_tupK (K := K) (n := 2) rfl rfl (pgs_cons (pg_name (i := 4) sc_is_within.nd rfl (.inl rfl)) (pgs_cons (pg_name (i := 5) sc_is_within.nd rfl (.inl rfl)) pgs_nil))) (pss_cons (ps_if (pt_cmpR op_lt (pv 3) (pe_op op_mul (pv 4) (pv 5)) (nomark _)) (pss_one (ps_ret (pe_cmpR (op_eqK (K := K) hu64 rfl) (pe_op op_modN (pv 3) (pv 4)) pe_int (nomark _)))) pss_nil)
      (pss_one (ps_set (i := 3) sc_is_within.nd rfl (.inl rfl) (pe_op op_sub (pv 3) (pe_op op_mul (pv 4) (pv 5)))))))
      (pss_one (ps_ret (pe_ifExp (pt_cmpR (op_eqK (K := K) hu64 rfl) (pv 1) pe_int (nomark _)) (pe_cmpR (op_eqK (K := K) hu64 rfl) (pv 3) pe_int (nomark _)) (pe_cmpR (op_eqK (K := K) hu64 rfl) (pe_op op_modN (pv 3) (pv 1)) pe_int (nomark _))))))), ?_⟩
  try dsimp only [cxOf, Cx.nox, Cx.wish]
  refine q_set K (d := .int (c : Int)) (by walk_at "ev") fun v3 H1 e1 d3 => ?_
  cases dp_int d3
  refine q_for K (b := false) (ds := r.map runD) (evd_var rfl h0 (by walk_at "ex")) fun v H2 e2 dv => ?_
  refine ⟨fun i σ' H' => ∃ (l : Nat) (x4 x5 : Option V), σ' = [some v0, some (.int e), some (.int c), some (.int l), x4, x5] ∧ Ex H2 H' ∧ within r e c = within (r.drop i) e l, ⟨c, none, none, rfl, Ex.refl _, rfl⟩, fun i σ' H' ⟨_, _, _, _, q, _⟩ => dp_ex q dv, ?_, ?_⟩
  · rintro i d x σ' H' hi dx ⟨l, x4, x5, rfl, e3, hw⟩
    obtain ⟨p, hp, rfl⟩ : ∃ p, r[i]? = some p ∧ runD p = d := by
      rw [List.getElem?_map] at hi
      cases hp : r[i]? with
      | none => rw [hp] at hi; cases hi
      | some p => rw [hp] at hi; exact ⟨p, rfl, Option.some.inj hi⟩
    obtain ⟨s, t⟩ := p
    have hs := hsm (s, t) (List.mem_of_getElem? hp)
    rw [drop_cons hp, within_c] at hw
    have dx : Dp K H' x (.tuple [.int (s : Int), .int (t : Int)]) := dx
    refine g_two dx fun y z dy dz => ?_
    cases dp_int dy
    cases dp_int dz
    have hb : (s : Int) < 2 ^ 64 := by have := hs.1; omega
    refine q_when (b := decide ((l : Int) < (s : Int) * (t : Int))) (by walk_at "et") (fun hlt H3 e4 => ?_) (fun hlt H3 e4 => ?_)
    · have hlt : l < s * t := by have := of_decide_eq_true hlt; rw [← Int.natCast_mul] at this; omega
      have hs0 : s ≠ 0 := fun z => by rw [z, Nat.zero_mul] at hlt; omega
      rw [if_pos hlt] at hw
      refine s_ret K (d := .bool (within r e c)) (evd_is (by walk_at "ev") ?_) fun v H4 e5 dv => k v H4 (by walk_at "ex") dv
      rw [hw, fmodN]
      congr 1
      rw [Bool.eq_iff_iff]; simp; omega
    · have hlt : ¬ l < s * t := by have := of_decide_eq_false hlt; rw [← Int.natCast_mul] at this; omega
      rw [if_neg hlt] at hw
      refine s_set K (d := .int ((l - s * t : Nat) : Int)) (evd_is (by walk_at "ev") ?_) fun v H4 e5 dv => ?_
      · congr 1; rw [← Int.natCast_mul]; omega
      · cases dp_int dv
        exact ⟨l - s * t, _, _, rfl, by walk_at "ex", hw⟩
  · rintro σ' H' ⟨l, x4, x5, rfl, e3, hw⟩
    rw [List.length_map, List.drop_length] at hw
    refine s_ret K (d := .bool (within r e c)) (evd_if (b := decide ((e : Int) = 0)) (by walk_at "et") (fun he => ?_) fun he => ?_) fun v H4 e5 dv => k v H4 (by walk_at "ex") dv
    · have he : e = 0 := by have := of_decide_eq_true he; omega
      refine evd_is (by walk_at "ev") ?_
      rw [hw, he]
      congr 1
      rw [Bool.eq_iff_iff]; simp [within]
    · have he : (e : Int) ≠ 0 := of_decide_eq_false he
      refine evd_is (by walk_at "ev") ?_
      rw [hw, fmodN]
      congr 1
      rw [Bool.eq_iff_iff]; simp [within]; omega
/-- places in lists of data -/
theorem at_nat {α : Type} {ds : List α} {i : Nat} {d : α} (h : ds[i]? = some d) : atI ds (i : Int) = some d := by
  have hl := (List.getElem?_eq_some_iff.mp h).1
  unfold atI
  rw [Evl.ixN_nat hl]
  exact h
theorem cut_from (ds : List PyData) (i : Nat) (h : i ≤ ds.length) : cutD ds (some (i : Int)) none = ds.drop i := by
  unfold cutD
  rw [HT.sIx_nat, HT.sIx_none, Nat.min_eq_left h, List.take_of_length_le (by rw [List.length_drop]; exact Nat.le_refl _)]
def stepsD (r : Runs) (e : Nat) : List PyData := r.map (fun p => PyData.int (p.1 : Nat)) ++ [.int (e : Nat)]
theorem steps_at {r : Runs} {e i : Nat} (h : i ≤ r.length) : (stepsD r e)[i]? = some (.int (fstep (r.drop i) e : Nat)) := by
  unfold stepsD
  by_cases hi : i < r.length
  · rw [List.getElem?_append_left (by simpa using hi), List.getElem?_map, List.getElem?_eq_getElem hi, List.drop_eq_getElem_cons hi]
    rfl
  · have : i = r.length := by omega
    subst this
    rw [List.getElem?_append_right (by simp), List.drop_length]
    simp [fstep]
def R_falling (ds : List PyData) (d : PyData) : Prop := ∃ R : Bfb.Row, Ok R ∧ ds = [rowD R] ∧ d = .bool true
theorem d_is_falling (F : Fd K mg "is_falling" s_is_falling) (B : Nm mg) (D_is_number : Df P w K mg base "is_number" 2 ["value"] (spP K R_number)) (D_is_within : Df P w K mg base "is_within" 1 ["runs", "end", "count"] (spP K R_within)) (D_is_run : Df P w K mg base "is_run" 3 ["value"] (spP K R_run)) : Df P w K mg base "is_falling" 4 ["value"] (spP K R_falling) := by
  refine d_pure F sc_is_falling (fun _ _ _ _ _ _ us hl => match us, hl with | [_], _ => rfl) (by rintro _ _ ⟨R, hR, rfl, rfl⟩; rfl) fun f cdv A outer s H vs ds d Q E hr hds hR k => ?_
  have hu64 := hr.units
  have hu65 := room65 hr
  have hu1 := room1 hr
  obtain ⟨R, hR, rfl, rfl⟩ := hR
  obtain ⟨v0, rfl, h0⟩ := dpa1 hds
  refine ⟨_, (pss_cons (ps_if (PW.pt (pw_or (pt_not (pt_val (pe_callB call_isi (by rfl) B.isinstance (by decide +kernel) (pa_cons (pv 0) (pa_cons (pe_bltn (v := .ty "tuple") (by rfl) B.tuple (by decide +kernel) rfl) pa_nil))))) (pw_or (pt_cmpR (op_neK (K := K) hu64 rfl) (pe_callB (call_lenK (K := K) rfl) (by rfl) B.len PySem.boot_len (pa_cons (pv 0) pa_nil)) pe_int (nomark _)) (pw_or (pt_not (pt_val (pe_callB call_isi (by rfl) B.isinstance (by decide +kernel) (pa_cons (pe_ix (ix_K (K := K) rfl) (pv 0) pe_int (fun _ _ => rfl)) (pa_cons (pe_bltn (v := .ty "tuple") (by rfl) B.tuple (by decide +kernel) rfl) pa_nil))))) (pw_or1 (pt_not (pt_val (pe_df D_is_number (hr.mono (by decide)) (by rfl) (pa_cons (pe_ix (ix_K (K := K) rfl) (pv 0) pe_int (fun _ _ => rfl)) pa_nil))))))))) (pss_one (ps_ret pe_bl)) pss_nil)
      (pss_cons (ps_asg (pv 0) (pg_tupK (K := K) (n := 2) rfl rfl (pgs_cons (pg_name (i := 1) sc_is_falling.nd rfl (.inr rfl)) (pgs_cons (pg_name (i := 2) sc_is_falling.nd rfl (.inr rfl)) pgs_nil))))
      (pss_cons (ps_if (PW.pt (pw_or (pt_not (pt_val (pe_callB (cr_all rfl) (by rfl) B.all (by decide +kernel) (pa_cons (pe_lc (own := [("run", 3)]) rfl sc_is_falling.nd (pi_seqK (K := K) rfl (pv 1)) (blkOk_by (own := [("run", 3)]) (N := N_is_falling) (sc := defScope s_is_falling) (by decide +kernel)) (fun _ _ _ _ _ => (pg_name (i := 3) sc_is_falling.nd rfl (.inl rfl))) (fun _ _ _ _ _ => pts_nil) (fun _ _ _ _ _ => (pe_df D_is_run (hr.mono (by decide)) (by rfl) (pa_cons (pv 3) pa_nil)))) pa_nil)))) (pw_or1 (PW.pt (pw_and (pt_cmpR (op_eqK (K := K) hu64 rfl) (pv 2) pe_int (nomark _)) (pw_and1 (pt_cmpR op_gt (pe_callB (call_lenK (K := K) rfl) (by rfl) B.len PySem.boot_len (pa_cons (pv 1) pa_nil)) pe_int (nomark _)))))))) (pss_one (ps_ret pe_bl)) pss_nil)
      (pss_cons (ps_set (i := 6) sc_is_falling.nd rfl (.inr rfl) (pe_lst (pa_starK (K := K) rfl (pe_lc (own := [("step", 4), ("times", 5)]) rfl sc_is_falling.nd (pi_seqK (K := K) rfl (pv 1)) (blkOk_by (own := [("step", 4), ("times", 5)]) (N := N_is_falling) (sc := defScope s_is_falling) (by decide +kernel)) (fun _ _ _ _ _ => (pg_tupK (K := K) (n := 2) rfl rfl (pgs_cons (pg_name (i := 4) sc_is_falling.nd rfl (.inl rfl)) (pgs_cons (pg_name (i := 5) sc_is_falling.nd rfl (.inl rfl)) pgs_nil)))) (fun _ _ _ _ _ => pts_nil) (fun _ _ _ _ _ => (pv 4))) (pa_cons (pv 2) pa_nil))))
      (pss_cons (ps_if (pt_not (pt_val (pe_callB (cr_all rfl) (by rfl) B.all (by decide +kernel) (pa_cons (pe_lc (own := [("at", 7)]) rfl sc_is_falling.nd (pi_range1 (by rfl) B.range (pa_cons (pe_callB (call_lenK (K := K) rfl) (by rfl) B.len PySem.boot_len (pa_cons (pv 1) pa_nil)) pa_nil)) (blkOk_by (own := [("at", 7)]) (N := N_is_falling) (sc := defScope s_is_falling) (by decide +kernel)) (fun _ _ _ _ _ => (pg_name (i := 7) sc_is_falling.nd rfl (.inl rfl))) (fun _ _ _ _ _ => pts_nil) (fun _ _ _ _ _ => (pe_cmpR op_gt (pe_ix (ix_K (K := K) rfl) (pv 6) (pv 7) (fun _ _ => rfl)) (pe_ix (ix_K (K := K) rfl) (pv 6) (pe_op (op_plusK (K := K) rfl) (pv 7) pe_int) (fun _ _ => rfl)) (nomark _)))) pa_nil)))) (pss_one (ps_ret pe_bl)) pss_nil)
      (pss_one (ps_ret (pe_callB (cr_all rfl) (by rfl) B.all (by decide +kernel) (pa_cons (pe_lc (own := [("at", 7)]) rfl sc_is_falling.nd (pi_range1 (by rfl) B.range (pa_cons (pe_callB (call_lenK (K := K) rfl) (by rfl) B.len PySem.boot_len (pa_cons (pv 1) pa_nil)) pa_nil)) (blkOk_by (own := [("at", 7)]) (N := N_is_falling) (sc := defScope s_is_falling) (by decide +kernel)) (fun _ _ _ _ _ => (pg_name (i := 7) sc_is_falling.nd rfl (.inl rfl))) (fun _ _ _ _ _ => pts_nil) (fun _ _ _ _ _ => (pe_df D_is_within (hr.mono (by decide)) (by rfl) (pa_cons (pe_slice (sl_K (K := K) rfl) (pv 1) (po_some (pe_op (op_plusK (K := K) rfl) (pv 7) pe_int)) po_none) (pa_cons (pv 2) (pa_cons (pe_ix (ix_K (K := K) rfl) (pe_ix (ix_K (K := K) rfl) (pv 1) (pv 7) (fun _ _ => rfl)) pe_int (fun _ _ => rfl)) pa_nil)))))) pa_nil))))))))), ?_⟩
  try dsimp only [cxOf, Cx.nox, Cx.wish]
  obtain ⟨r, e⟩ := R
  have h0 : Dp K H v0 (.tuple [.tuple (r.map runD), .int (e : Nat)]) := h0
  have hl : r.length ≤ 30 := hR.len
  have hlm : (r.map runD).length ≤ 100000 := by rw [List.length_map]; omega
  refine q_no (et_is (et_or (et_not (et_B (by walk_at "ev"))) fun _ => et_or (et_test (by walk_at "ev")) fun _ => et_or (et_not (et_B (by walk_at "ev"))) fun _ => et_not (et_B (evd_call (by walk_at "ea") (num_int e)))) rfl) fun H1 e1 => ?_
  refine q_asg K (d := .tuple [.tuple (r.map runD), .int (e : Nat)]) (by walk_at "ev") fun v H2 e2 dv => ?_
  refine g_two dv fun v1 v2 d1 d2 => ?_
  cases dp_int d2
  refine q_no (et_is (et_or (b := false) (et_not (et_B (b := true) (evd_is (evd_all (b := false) (ds := r.map runD) (fun _ => true) (by walk_at "ev") hlm fun x hx => ?_) ?_))) fun _ => ?_) rfl) fun H3 e3 => ?_
  · refine lct_name (fun v => rfl) fun v H1 e dv => ⟨et_yes, fun _ => ?_⟩
    obtain ⟨⟨s, t⟩, hp, rfl⟩ := List.mem_map.mp hx
    obtain ⟨i, hi⟩ := List.mem_iff_getElem?.mp hp
    have := run_ok hR.v hi
    exact evd_call (by walk_at "ea") ⟨s, t, this.s0, this.t0, rfl, rfl⟩
  · simp
  · by_cases he : e = 0
    · have hr0 : r = [] := hR.end0 he
      subst he hr0
      exact et_is (et_and (a := true) (b := false) (et_is (by walk_at "et") (by rfl)) fun _ => et_is (by walk_at "et") (by rfl)) rfl
    · exact et_is (et_and (a := false) (b := true) (et_is (by walk_at "et") (by simpa using he)) fun z => nomatch z) rfl
  have vs : EvD K (tVar 1) [some v0, some v1, some (.int (e : Nat)), none, none, none, none, none] H3 (.tuple (r.map runD)) := by walk_at "ev"
  refine q_set K (d := .list (stepsD r e)) (evd_lst (evda_starL (evd_is (evd_map (b := false) (ds := r.map runD) (fun x => match x with | .tuple (y :: _) => y | _ => .none) (by walk_at "ev") hlm (fun x hx => ?_) fun x hx => ?_) ?_) (evda_cons (by walk_at "ev") evda_nil)) (by unfold stepsD; simp; omega)) fun v6 H4 e4 d6 => ?_
  · obtain ⟨⟨s, t⟩, hp, rfl⟩ := List.mem_map.mp hx
    rfl
  · obtain ⟨⟨s, t⟩, hp, rfl⟩ := List.mem_map.mp hx
    refine lct_two (fun v u => rfl) fun v u H1 e dv du => ⟨et_yes, fun _ => ?_⟩
    have dv : Dp K H1 v (.int (s : Nat)) := dv
    cases dp_int dv
    walk_at "ev"
  · congr 1
    rw [List.map_map]
    rfl
  have len1 : ∀ {σ H}, EvD K (tVar 1) σ H (.tuple (r.map runD)) → EvDA K (tCons (tCB (fun xs H Q => ∃ p ys, xs = [V.ref p] ∧ (SqL K H p ys ∨ SqT K H p ys) ∧ Q (V.int ↑ys.length) H) (tCons (tVar 1) tNil)) tNil) σ H [.int (r.length : Nat)] := fun h => evda_cons (evd_is (evd_cb (evda_cons h evda_nil) rc_lenT) (by rw [List.length_map])) evda_nil
  refine q_no (et_is (et_not (et_B (b := true) (evd_is (evd_allR (n := r.length) (fun _ => true) (len1 (by walk_at "ev")) (by omega) fun i hi => ?_) ?_))) rfl) fun H5 e5 => ?_
  · refine lct_name (fun v => rfl) fun v H6 e6 dv => ⟨et_yes, fun _ => ?_⟩
    cases dp_int dv
    obtain ⟨⟨s, t⟩, hp⟩ : ∃ p, r[i]? = some p := ⟨_, List.getElem?_eq_getElem hi⟩
    have ro := run_ok hR.v hp
    have a1 : atI (stepsD r e) (i : Int) = some (.int (s : Nat)) := by
      refine at_nat ?_
      rw [steps_at (by omega), drop_cons hp]
      rfl
    have a2 : atI (stepsD r e) ((i : Int) + 1) = some (.int (fstep (r.drop (i + 1)) e : Nat)) := at_nat (i := i + 1) (steps_at (by omega))
    refine evd_is (evd_op (evd_op (by walk_at "ev") (by walk_at "ev") (rd_ixL a1)) (evd_op (by walk_at "ev") (by walk_at "ev") (rd_ixL a2)) (by walk_at "rd")) ?_
    have := ro.desc
    simp
    omega
  · simp
  refine s_ret K (d := .bool true) (evd_is (evd_allR (n := r.length) (fun _ => true) (len1 (by walk_at "ev")) (by omega) fun i hi => ?_) (by simp)) fun v H6 e6 dv => k v H6 (by walk_at "ex") dv
  refine lct_name (fun v => rfl) fun v H6 e6 dv => ⟨et_yes, fun _ => ?_⟩
  cases dp_int dv
  obtain ⟨⟨s, t⟩, hp⟩ : ∃ p, r[i]? = some p := ⟨_, List.getElem?_eq_getElem hi⟩
  have ro := run_ok hR.v hp
  have a1 : atI (r.map runD) (i : Int) = some (runD (s, t)) := at_nat (by rw [List.getElem?_map, hp]; rfl)
  have cu : cutD (r.map runD) (some ((i : Int) + 1)) none = (r.drop (i + 1)).map runD := by
    rw [show ((i : Int) + 1) = ((i + 1 : Nat) : Int) by omega, cut_from _ _ (by rw [List.length_map]; omega), List.map_drop]
  refine evd_call (ds := [runsD (r.drop (i + 1)), .int (e : Nat), .int (s : Nat)]) (evda_cons (evd_is (evd_slT (ds := r.map runD) (lo := some ((i : Int) + 1)) (hi := none) (by walk_at "ev") (eo_some (K := K) (by walk_at "ev")) eo_none) ?_) (evda_cons (by walk_at "ev") (evda_cons (evd_op (evd_op (by walk_at "ev") (by walk_at "ev") (rd_ixT a1)) (by walk_at "ev") (rd_ixT rfl)) evda_nil))) ⟨_, _, _, drop_sm hR.sm _, rfl, by rw [ro.ins]⟩
  rw [cu]
  rfl
def R_checked (ds : List PyData) (d : PyData) : Prop := ∃ R : Bfb.Row, Ok R ∧ ds = [rowD R] ∧ d = rowD R
theorem d_checked_falling (F : Fd K mg "checked_falling" s_checked_falling) (B : Nm mg) (D_is_falling : Df P w K mg base "is_falling" 4 ["value"] (spP K R_falling)) : Df P w K mg base "checked_falling" 5 ["value"] (spP K R_checked) := by
  refine d_pure F sc_checked_falling (fun _ _ _ _ _ _ us hl => match us, hl with | [_], _ => rfl) (by rintro _ _ ⟨R, hR, rfl, rfl⟩; rfl) fun f cdv A outer s H vs ds d Q E hr hds hR k => ?_
  have hu64 := hr.units
  have hu65 := room65 hr
  have hu1 := room1 hr
  obtain ⟨R, hR, rfl, rfl⟩ := hR
  obtain ⟨v0, rfl, h0⟩ := dpa1 hds
  refine ⟨_, (pss_cons (ps_if (pt_not (pt_val (pe_df D_is_falling (hr.mono (by decide)) (by rfl) (pa_cons (pv 0) pa_nil)))) (pss_one ps_never) pss_nil)
      (pss_one (ps_ret (pv 0)))), ?_⟩
  try dsimp only [cxOf, Cx.nox, Cx.wish]
  refine q_no (et_is (et_not (et_B (evd_call (by walk_at "ea") ⟨R, hR, rfl, rfl⟩))) rfl) fun H1 e1 => ?_
  exact s_ret K (d := rowD R) (by walk_at "ev") fun v H2 e2 dv => k v H2 (by walk_at "ex") dv
end Bw
end
section
set_option Elab.async false
set_option linter.all false
set_option maxRecDepth 100000
namespace Bw
open PySem PySem.Spec PyProof.Rows L2
/-! ### all but some lists stand still -/
def Bts (S : List Addr) (H H' : Hp) : Prop := ∀ a o, a ∉ S → H a = some o → H' a = some o
/-- the addresses are lists -/
def Lsts (S : List Addr) (H : Hp) : Prop := ∀ a ∈ S, (∃ ys, H a = some (.lst ys)) ∨ ∃ kvs, H a = some (.dT kvs)
section
variable {K : PySem.W.Frag} {H H1 H' H2 : Hp} {S S' : List Addr} {p q : Addr} {v : V} {vs acc : List V} {d : PyData} {ds es : List PyData}
theorem Bts.refl : Bts S H H := fun _ _ _ h => h
theorem Bts.of (e : Ex H H') : Bts S H H' := fun a o _ h => e a o h
theorem Bts.trans (b : Bts S H H1) (c : Bts S H1 H2) : Bts S H H2 := fun a o n h => c a o n (b a o n h)
theorem Bts.ex (b : Bts S H H1) (c : Ex H1 H2) : Bts S H H2 := fun a o n h => c a o (b a o n h)
theorem Bts.mono (h : ∀ a ∈ S, a ∈ S') (b : Bts S H H') : Bts S' H H' := fun a o n e => b a o (fun z => n (h a z)) e
theorem Bts.upd {o : HO} (h : p ∈ S) : Bts S H (L2.upd H p o) := fun a u n e => by rw [upd_ne (fun z => n (by rw [z]; exact h))]; exact e
theorem sqt_bts {a : Addr} {xs : List V} (b : Bts S H H') (hl : Lsts S H) (h : SqT K H a xs) : SqT K H' a xs := by
  have ne : ∀ {o}, H a = some o → (∀ zs, o ≠ .lst zs) → (∀ zs, o ≠ .dT zs) → a ∉ S := fun e k k' z => by
    rcases hl a z with ⟨ys, hy⟩ | ⟨ys, hy⟩
    · rw [hy] at e
      exact k ys (Option.some.inj e).symm
    · rw [hy] at e
      exact k' ys (Option.some.inj e).symm
  rcases h with (h | ⟨o, h⟩) | h
  · exact .inl (.inl (b _ _ (ne h (fun _ z => by cases z) fun _ z => by cases z) h))
  · exact .inl (.inr ⟨o, b _ _ (ne h (fun _ z => by cases z) fun _ z => by cases z) h⟩)
  · exact .inr h
mutual
theorem dp_bts {K : PySem.W.Frag} {H H' : Hp} {S : List Addr} (b : Bts S H H') (hl : Lsts S H) : ∀ {d : PyData} {v : V}, noL d = true → Dp K H v d → Dp K H' v d
  | .none, _, _, .non => .non
  | .bool _, _, _, .bl b => .bl b
  | .int _, _, _, .int i => .int i
  | .str _, _, _, .str x => .str x
  | .list _, _, n, _ => by simp [noL] at n
  | .tuple _, _, n, .tup h hs => .tup (sqt_bts b hl h) (dpa_bts b hl (by simpa [noL] using n) hs)
theorem dpa_bts {K : PySem.W.Frag} {H H' : Hp} {S : List Addr} (b : Bts S H H') (hl : Lsts S H) : ∀ {ds : List PyData} {vs : List V}, noLs ds = true → DpAll K H vs ds → DpAll K H' vs ds
  | [], _, _, .nil => .nil
  | _ :: _, _, n, .cons h hs => by
    simp only [noLs, Bool.and_eq_true] at n
    exact .cons (dp_bts b hl n.1 h) (dpa_bts b hl n.2 hs)
end
/-- a list elsewhere -/
theorem dpl_bts (b : Bts S H H') (hl : Lsts S H) (n : noLs ds = true) (h : Dp K H (.ref q) (.list ds)) (hq : q ∉ S) : Dp K H' (.ref q) (.list ds) := by
  obtain ⟨a, xs, e, h1, h2⟩ := dp_lst h
  cases e
  refine .lst ?_ (dpa_bts b hl n h2)
  rcases h1 with (h1 | ⟨o, h1⟩) | h1
  · exact .inl (.inl (b _ _ hq h1))
  · exact .inl (.inr ⟨o, b _ _ hq h1⟩)
  · exact .inr h1
/-- a list of one's own -/
structure Own (K : PySem.W.Frag) (H : Hp) (p : Addr) (es : List PyData) : Prop where
  ex : ∃ acc, H p = some (.lst acc) ∧ DpAll K H acc es
theorem Own.dp (h : Own K H p es) : Dp K H (.ref p) (.list es) := by
  obtain ⟨acc, h1, h2⟩ := h.ex
  exact .lst (SqL.of h1) h2
theorem Own.mono (e : Ex H H') (h : Own K H p es) : Own K H' p es := by
  obtain ⟨acc, h1, h2⟩ := h.ex
  exact ⟨acc, e _ _ h1, dpa_ex e h2⟩
theorem Own.lst (h : Own K H p es) : ∃ ys, H p = some (.lst ys) := by
  obtain ⟨acc, h1, h2⟩ := h.ex
  exact ⟨acc, h1⟩
theorem Own.new (h : H p = some (.lst [])) : Own K H p [] := ⟨⟨[], h, .nil⟩⟩
theorem Own.bts (b : Bts S H H') (hl : Lsts S H) (n : noLs es = true) (hp : p ∉ S) (h : Own K H p es) : Own K H' p es := by
  obtain ⟨acc, h1, h2⟩ := h.ex
  exact ⟨acc, b _ _ hp h1, dpa_bts b hl n h2⟩
theorem lsts1 (h : Own K H p es) : Lsts [p] H := fun a ha => by
  rw [List.mem_singleton.mp ha]; exact .inl h.lst
theorem lsts2 {fs : List PyData} (h : Own K H p es) (h' : Own K H q fs) : Lsts [p, q] H := fun a ha => by
  rcases List.mem_cons.mp ha with z | z
  · rw [z]; exact .inl h.lst
  · rw [List.mem_singleton.mp z]; exact .inl h'.lst
/-- a list with other contents is another list -/
theorem dpl_own (o : Own K H p es) (b : Bts [p] H H') (n : noLs ds = true) (ne : ∀ xs, DpAll K H xs ds → DpAll K H xs es → False) (h : Dp K H v (.list ds)) : Dp K H' v (.list ds) := by
  obtain ⟨a, xs, rfl, k1, k2⟩ := dp_lst h
  refine .lst ?_ (dpa_bts b (lsts1 o) n k2)
  obtain ⟨acc, h1, h2⟩ := o.ex
  rcases k1 with (k1 | ⟨o', k1⟩) | k1
  · refine .inl (.inl (b _ _ (fun z => ?_) k1))
    rw [List.mem_singleton.mp z, h1] at k1
    cases k1
    exact ne _ k2 h2
  · refine .inl (.inr ⟨o', b _ _ (fun z => ?_) k1⟩)
    rw [List.mem_singleton.mp z, h1] at k1
    cases k1
  · exact .inr k1
end
/-! ### new lists -/
section
variable {K : PySem.W.Frag} {σ : L2.St} {H H' : Hp} {ta tb tx : TA} {te to ti : TE} {D : Ends} {tz : TS} {d e f : PyData} {es : List PyData} {p : Addr}
theorem fresh_ex {H H' : Hp} (e : Ex H H') (h : H' p = none) : H p = none := by
  cases hp : H p with
  | none => rfl
  | some o => rw [e p o hp] at h; cases h
theorem ex_bts {H1 : Hp} (e : Ex H H1) (b : Bts [p] H1 H') (np : H p = none) : Ex H H' := fun a o h => b a o (fun z => by rw [List.mem_singleton.mp z, np] at h; cases h) (e a o h)
theorem ex_bts2 {H1 : Hp} {q : Addr} (e : Ex H H1) (b : Bts [p, q] H1 H') (np : H p = none) (nq : H q = none) : Ex H H' := fun a o h => b a o (fun z => by
  rcases List.mem_cons.mp z with z | z
  · rw [z, np] at h; cases h
  · rw [List.mem_singleton.mp z, nq] at h; cases h) (e a o h)
variable (K) in
theorem q_new {i : Nat} (k : ∀ p H1, Ex H H1 → H p = none → Own K H1 p [] → tz D (σ.set i (some (.ref p))) H1) : tSeq (tAsg (tLst tNil) (gName i)) tz D σ H :=
  ⟨Nat.zero_le _, fun p np => k p _ (Ex.new np) np (Own.new upd_same)⟩
variable (K) in
theorem q_parDN {i j : Nat} (h : EvD K te σ H d) (k : ∀ v p H1, Ex H H1 → H p = none → Own K H1 p [] → Dp K H1 v d → tz D ((σ.set i (some v)).set j (some (.ref p))) H1) : tSeq (tPar i j (tCons te (tCons (tLst tNil) tNil))) tz D σ H :=
  h H (Ex.refl H) _ fun v H1 e1 dv => ⟨Nat.zero_le _, fun p np => ⟨v, .ref p, rfl, k v p _ (e1.trans (Ex.new np)) (fresh_ex e1 np) (Own.new upd_same) (dp_ex (Ex.new np) dv)⟩⟩
variable (K) in
theorem q_parND {i j : Nat} (h : EvD K te σ H d) (k : ∀ p v H1, Ex H H1 → H p = none → Own K H1 p [] → Dp K H1 v d → tz D ((σ.set i (some (.ref p))).set j (some v)) H1) : tSeq (tPar i j (tCons (tLst tNil) (tCons te tNil))) tz D σ H :=
  ⟨Nat.zero_le _, fun p np => h _ (Ex.new np) _ fun v H1 e1 dv => ⟨.ref p, v, rfl, k p v H1 ((Ex.new np).trans e1) np ((Own.new upd_same).mono e1) dv⟩⟩
variable (K) in
theorem q_par3NND {i j l : Nat} (h : EvD K te σ H d) (k : ∀ p q v H1, Ex H H1 → p ≠ q → H p = none → H q = none → Own K H1 p [] → Own K H1 q [] → Dp K H1 v d → tz D (((σ.set i (some (.ref p))).set j (some (.ref q))).set l (some v)) H1) :
    tSeq (tPar3 i j l (tCons (tLst tNil) (tCons (tLst tNil) (tCons te tNil)))) tz D σ H :=
  ⟨Nat.zero_le _, fun p np => ⟨Nat.zero_le _, fun q nq => h _ ((Ex.new np).trans (Ex.new nq)) _ fun v H1 e1 dv => ⟨.ref p, .ref q, v, rfl, k p q v H1 (((Ex.new np).trans (Ex.new nq)).trans e1) (fun z => by rw [← z, upd_same] at nq; cases nq) np (fresh_ex (Ex.new np) nq)
    (((Own.new upd_same).mono (Ex.new nq)).mono e1) ((Own.new upd_same).mono e1) dv⟩⟩⟩
variable (K) in
theorem q_tup3NND {i j l : Nat} (h : EvD K te σ H d) (k : ∀ p q v H1, Ex H H1 → p ≠ q → H p = none → H q = none → Own K H1 p [] → Own K H1 q [] → Dp K H1 v d → tz D (((σ.set i (some (.ref p))).set j (some (.ref q))).set l (some v)) H1) :
    tSeq (tAsg (tTup (tCons (tLst tNil) (tCons (tLst tNil) (tCons te tNil)))) (gTup K 3 (gCons (gName i) (gCons (gName j) (gCons (gName l) gNil))))) tz D σ H :=
  ⟨Nat.zero_le _, fun p np => ⟨Nat.zero_le _, fun q nq => h _ ((Ex.new np).trans (Ex.new nq)) _ fun v H1 e1 dv => ⟨by show 3 ≤ sizeLine; decide, fun t nt =>
    ⟨t, [.ref p, .ref q, v], rfl, SqT.of upd_same, rfl, _, _, rfl, _, _, rfl, _, _, rfl, rfl, k p q v _ ((((Ex.new np).trans (Ex.new nq)).trans e1).trans (Ex.new nt)) (fun z => by rw [← z, upd_same] at nq; cases nq) np (fresh_ex (Ex.new np) nq)
    ((((Own.new upd_same).mono (Ex.new nq)).mono e1).mono (Ex.new nt)) (((Own.new upd_same).mono e1).mono (Ex.new nt)) (dp_ex (Ex.new nt) dv)⟩⟩⟩⟩
variable (K) in
theorem q_par3NDD {i j l : Nat} (h : EvD K te σ H d) (h' : EvD K to σ H e) (k : ∀ p v u H1, Ex H H1 → H p = none → Own K H1 p [] → Dp K H1 v d → Dp K H1 u e → tz D (((σ.set i (some (.ref p))).set j (some v)).set l (some u)) H1) :
    tSeq (tPar3 i j l (tCons (tLst tNil) (tCons te (tCons to tNil)))) tz D σ H :=
  ⟨Nat.zero_le _, fun p np => h _ (Ex.new np) _ fun v H1 e1 dv => h' H1 ((Ex.new np).trans e1) _ fun u H2 e2 du => ⟨.ref p, v, u, rfl, k p v u H2 ((Ex.new np).trans (e1.trans e2)) np ((Own.new upd_same).mono (e1.trans e2)) (dp_ex e2 dv) du⟩⟩
/-! xs.append(e), xs[i] = e, xs.pop() -/
variable (K) in
theorem s_app {i : Nat} (ho : Own K H p es) (hv : σ[i]? = some (some (.ref p))) (hn : noLs es = true) (hd : noL d = true) (hz : es.length < 100000) (h : EvD K te σ H d) (k : ∀ H1, Bts [p] H H1 → Own K H1 p (es ++ [d]) → D.nx σ H1) :
    tDrop (tBM K "list" rAppend (tVar i) (tCons te tNil)) D σ H := by
  obtain ⟨acc, h1, h2⟩ := ho.ex
  refine ⟨_, hv, Or.inl ⟨rfl, acc, SqL.of h1⟩, h H (Ex.refl H) _ fun v H1 e1 dv => ⟨p, acc, v, rfl, rfl, e1 _ _ h1, Evl.sz_lt (by rw [dpa_len h2]; exact hz), k _ ((Bts.of e1).trans (Bts.upd List.mem_cons_self)) ?_⟩⟩
  have o1 := ho.mono e1
  have b : Bts [p] H1 (upd H1 p (.lst (acc ++ [v]))) := Bts.upd List.mem_cons_self
  exact ⟨_, upd_same, dpa_app (dpa_bts b (lsts1 o1) hn (dpa_ex e1 h2)) (.cons (dp_bts b (lsts1 o1) hd dv) .nil)⟩
variable (K) in
theorem q_app {i : Nat} (ho : Own K H p es) (hv : σ[i]? = some (some (.ref p))) (hn : noLs es = true) (hd : noL d = true) (hz : es.length < 100000) (h : EvD K te σ H d) (k : ∀ H1, Bts [p] H H1 → Own K H1 p (es ++ [d]) → tz D σ H1) :
    tSeq (tDrop (tBM K "list" rAppend (tVar i) (tCons te tNil))) tz D σ H := s_app (D := { D with nx := tz D }) K ho hv hn hd hz h k
variable (K) in
theorem s_put {i : Nat} {a : Int} {j : Nat} (ho : Own K H p es) (hv : σ[i]? = some (some (.ref p))) (hn : noLs es = true) (hd : noL d = true) (h : EvD K te σ H d) (hi : EvD K ti σ H (.int a)) (hj : ixN es.length a = some j) (k : ∀ H1, Bts [p] H H1 → Own K H1 p (es.set j d) → D.nx σ H1) :
    tAsg te (gSub (tVar i) ti rSetL) D σ H := by
  obtain ⟨acc, h1, h2⟩ := ho.ex
  refine h H (Ex.refl H) _ fun v H1 e1 dv => ⟨_, hv, hi H1 e1 _ fun u H2 e2 du => ?_⟩
  cases dp_int du
  have e := e1.trans e2
  refine ⟨p, acc, a, j, rfl, rfl, e _ _ h1, by rw [dpa_len h2]; exact hj, k _ ((Bts.of e).trans (Bts.upd List.mem_cons_self)) ?_⟩
  have o1 := ho.mono e
  have b : Bts [p] H2 (upd H2 p (.lst (acc.set j v))) := Bts.upd List.mem_cons_self
  exact ⟨_, upd_same, dpa_set j (dpa_bts b (lsts1 o1) hn (dpa_ex e h2)) (dp_bts b (lsts1 o1) hd (dp_ex e2 dv))⟩
variable (K) in
theorem s_pop {i : Nat} (ho : Own K H p es) (hv : σ[i]? = some (some (.ref p))) (hn : noLs es = true) (hne : es ≠ []) (k : ∀ H1, Bts [p] H H1 → Own K H1 p es.dropLast → D.nx σ H1) : tDrop (tBM0 K "list" rPop (tVar i)) D σ H := by
  obtain ⟨acc, h1, h2⟩ := ho.ex
  have hl := dpa_len h2
  have hpos : 0 < acc.length := by rw [hl]; exact List.length_pos_iff.mpr hne
  refine ⟨_, hv, Or.inl ⟨rfl, acc, SqL.of h1⟩, p, acc, _, rfl, rfl, h1, List.getElem?_eq_getElem (by omega), k _ (Bts.upd List.mem_cons_self) ?_⟩
  have b : Bts [p] H (upd H p (.lst acc.dropLast)) := Bts.upd List.mem_cons_self
  exact ⟨_, upd_same, dpa_init (dpa_bts b (lsts1 ho) hn h2)⟩
end
end Bw
end
section
set_option Elab.async false
set_option linter.all false
set_option maxRecDepth 100000
set_option maxHeartbeats 4000000
/-! sorted(set(list of ints)). -/
namespace Bw
open PySem PySem.Spec PyProof.Rows L2
abbrev emptySet (w : World) : Obj := { cls := .type "set", dict := none, data := .set #[] 0 (.fresh 0 0 (!w.params.followText "set-order")) }
section
variable {P : Program} {w : World} {A : Around} {E : Value → Shared → Prop} {s : Shared}
theorem make_set {p : Addr} {us : Array Value} (js : List Int) {Q : Value → Shared → Prop} (nh : A.handled = none) (lp : s.heap.IsList p us) (iu : IntsAre us.toList js) (room : js.length + 1 < scanBound)
    (q : ∀ (g : Heap) (tk c : Nat), SetR w g s.heap.objs.size (fun j => decide (j ∈ js)) c → c ≤ js.length → (∀ b o, s.heap.get? b = some o → g.get? b = some o) → Q (.ref s.heap.objs.size) { s with heap := g, toks := tk }) :
    wpAny (model P w) A (call (.type "set") [.ref p]) Q E s := by
  have nus : us.size = js.length := by
    have z := IntsAre.length iu
    rwa [Array.length_toList] at z
  obtain ⟨c0, tl0, f0⟩ := F.called_set.mro
  have f1 := F.called_set.made
  have f2 := F.called_set.sub
  refine wpAny_call (codeAny_of_tree ?_)
  show wpAny (model P w) _ (callAny (.type "set") _) _ _ s
  refine wpAny_pure ⟨Code.quiet_builtin _ (by decide +kernel), codeAny_builtin F.entry_type_call ?_⟩
  rw [Around.under_plain (weight_type_call_type "set" [.ref p] []) rfl]
  have f3 := F.called_set.notType; have f4 := F.called_set.canCreate; have f5 := F.typeCall_set_1 (.ref p)
  repeat (any_goals (first | assumption | wp_step))
  refine codeAny_mono (code_set_led1 (.ref p) (E := E) (Q₁ := fun x s' => x = .ref s.heap.objs.size ∧ s' = { s with heap := s.heap.push (emptySet w) }) ⟨rfl, rfl⟩) fun x s' hx => ?_
  match x, hx with
  | .error e, hx => exact hx
  | .ok (.ret ob), hx =>
    obtain ⟨rfl, rfl⟩ := hx
    have g0 : (s.heap.push (emptySet w)).get? s.heap.objs.size = some (emptySet w) := Heap.get?_push_size _ rfl
    have ty0 : Shared.TypeIs { s with heap := s.heap.push (emptySet w) } (.ref s.heap.objs.size) "set" := ⟨_, g0, rfl⟩
    have f6 := F.called_set.init.lookup; have f7 := F.called_set.init.bind (.ref s.heap.objs.size)
    repeat (any_goals (first | assumption | wp_step))
    refine codeAny_mono (codeAny_call_builtin (R := wants (fun r t => r = .none ∧ ∃ g tk c, t = { s with heap := g, toks := tk } ∧ SetR w g s.heap.objs.size (fun j => decide (j ∈ js)) c ∧ c ≤ js.length ∧
      (∀ b o, s.heap.get? b = some o → g.get? b = some o)) E) F.called_set.init.plain F.entry_set_init (check_set_init_1 ty0 ?_)) fun r t hr => ?_
    · obtain ⟨ol, e0, ec, nl, ed⟩ := lp
      obtain ⟨k0, k1, k2, k3⟩ := ol
      simp only at ec ed
      subst ec ed
      have g1 : (s.heap.push (emptySet w)).get? p = some { cls := .type "list", dict := k1, data := .seq us nl, slots := k3 } := Heap.get?_push_of_some _ e0
      have n1 := F.sub_list_set; have n2 := F.sub_list_frozenset
      have n3 : (Value.type "list" == Value.type "dict") = false := by decide
      have lp1 : (s.heap.push (emptySet w)).IsList p us := ⟨_, g1, rfl, nl, rfl⟩
      unfold Builtin.«set.__init__» noKeywords Builtin.Frozenset.updateFrom
      generalize hIt : pyIter = it
      wp_walk
      subst hIt
      refine wpAny_pyIter_list lp1 (wpAny_bind (wpAny_runValue ?_))
      have plt : p < s.heap.objs.size := Heap.lt_size e0
      have nh3 : A.in1.in1.in1.handled = none := by simp [nh]
      have sz1 : ∀ o, (s.heap.push o).objs.size = s.heap.objs.size + 1 := fun o => Heap.size_push ..
      have d1 : p ≠ (s.heap.push (emptySet w)).objs.size := by rw [sz1]; exact Nat.ne_of_lt (Nat.lt_succ_of_lt plt)
      have d2 : s.heap.objs.size ∉ [(s.heap.push (emptySet w)).objs.size, p] := by
        intro z
        rcases List.mem_cons.mp z with z | z
        · rw [sz1] at z; exact absurd z (Nat.ne_of_lt (Nat.lt_succ_self _))
        · exact absurd (List.mem_singleton.mp z).symm (Nat.ne_of_lt plt)
      have vals : ∀ (i : Nat) (v : Value), us[i]? = some v → ∃ k t, js[i]? = some k ∧ v = .int k t := fun i v hv => by
        have hi : i < js.length := by rw [← nus]; exact (Array.getElem?_eq_some_iff.mp hv).1
        obtain ⟨t, e⟩ := IntsAre.int_at iu i v (by rw [Array.getElem?_toList]; exact hv)
        rw [List.getD_eq_getElem?_getD, List.getElem?_eq_getElem hi, Option.getD_some] at e
        exact ⟨js[i], t, List.getElem?_eq_getElem hi, e⟩
      refine set_update_ints ((Walks.list nh3 _ p d1 us).toS) s.heap.objs.size d2 js nus room vals (us.size - 0) 0 _ rfl (Nat.zero_le _) ⟨⟨_, Heap.get?_push_size _ rfl, rfl, rfl⟩, lp1.push _⟩
        ⟨0, Nat.le_refl 0, setR_new_at (Heap.get?_push_of_some _ g0)⟩ fun t c mv hc hS => ?_
      obtain ⟨g, a1, a2, tk, a3⟩ := t
      have b1 : a1 = s.gens := mv.gens
      have b2 : a2 = s.drawn := mv.drawn
      have b3 : a3 = s.os := mv.os
      subst b1 b2 b3
      show wpAny _ _ _ _ _ _
      refine wpAny_pure ?_
      show wpAny _ _ (ret Value.none) _ _ _
      refine wpAny_pure ⟨rfl, g, tk, c, rfl, hS, by omega, fun b o e => ?_⟩
      have blt : b < s.heap.objs.size := Heap.lt_size e
      refine mv.heap b o (fun z => ?_) (Heap.get?_push_of_some _ (Heap.get?_push_of_some _ e))
      rcases List.mem_cons.mp z with z | z
      · exact absurd z (Nat.ne_of_lt blt)
      · have z := List.mem_singleton.mp z
        rw [sz1] at z
        exact absurd z (Nat.ne_of_lt (Nat.lt_succ_of_lt blt))
    · match r, hr with
      | .error e, hr => exact hr
      | .ok (.ret u), hr =>
        obtain ⟨rfl, g, tk, c, rfl, h1, h2, h3⟩ := hr
        repeat (any_goals (first | assumption | wp_step))
        exact q _ _ _ h1 h2 h3
end
section
variable {X : Cx} {K : PySem.W.Frag} {σ : L2.St} {H : Hp} {te : TE}
def rSetL (K : PySem.W.Frag) (w : World) : List V → Hp → VK → Prop := fun xs H Q => ∃ (p : Addr) (js : List Int), xs = [.ref p] ∧ SqL K H p (js.map V.int) ∧ js.length ≤ 1000 ∧ ∀ a c, H a = none → c ≤ js.length → Q (.ref a) (upd H a (SetO w a (fun j => decide (j ∈ js)) c))
theorem cr_setL (calm : X.calm = true) : CallR X (.type "set") (rSetL X.K X.w) := by
  intro pins s σ H xs us Q I r h
  obtain ⟨p, js, rfl, hs, hz, q⟩ := h
  rw [Vals.ref1 r]
  obtain ⟨its, rv, pl, _⟩ := I.list hs
  refine make_set (us := its.toArray) js (I.ok.hd calm) pl.isList (by simpa using ints_of_vals rv) (by unfold scanBound; omega) fun g tk c hS hc k => ?_
  exact ⟨.ref _, _, I.laid k (Nat.le_refl _) (setO_new hS), rfl, q _ c (I.hok.fresh (Nat.le_refl _)) hc⟩
theorem nats_of : ∀ {L : List Int}, (∀ k ∈ L, 0 ≤ k) → ∃ N : List Nat, L = N.map (fun (n : Nat) => (n : Int))
  | [], _ => ⟨[], rfl⟩
  | k :: L, h => by
    obtain ⟨N, e⟩ := nats_of fun j hj => h j (List.mem_cons_of_mem _ hj)
    have := h k List.mem_cons_self
    exact ⟨k.toNat :: N, by rw [List.map_cons, e]; congr 1; omega⟩
def intN (n : Nat) : PyData := .int n
theorem ints_nat (N : List Nat) : (N.map (fun (n : Nat) => (n : Int))).map PyData.int = N.map intN := by rw [List.map_map]; rfl
/-- what sorted(set(..)) of natural ints may be -/
def Sorted (ns L : List Nat) : Prop := L.Pairwise (· < ·) ∧ (∀ k, k ∈ L ↔ k ∈ ns) ∧ L.length ≤ ns.length
theorem ev_sort {ns : List Nat} (hz : ns.length < 64) (ht : EvD K te σ H (.list (ns.map intN))) {H1 : Hp} (g : Ex H H1) {Q : VK} (q : ∀ L v H2, Sorted ns L → Ex H1 H2 → Dp K H2 v (.list (L.map intN)) → Q v H2) :
    (tCB (rSortedSet w) (tCons (tCB (rSetL K w) (tCons te tNil)) tNil)) σ H1 Q :=
  ht H1 g _ fun v H2 g2 dv => by
    obtain ⟨a, xs, rfl, h1, h2⟩ := dp_lst dv
    rw [← ints_nat] at h2
    rw [dpa_ints h2] at h1
    refine ⟨a, _, rfl, h1, by rw [List.length_map]; omega, fun b c hb hc => ⟨b, _, c, rfl, upd_same, by rw [List.length_map] at hc; omega, fun l p hs hm hl hp => ?_⟩⟩
    have hm' : ∀ k, k ∈ l ↔ k ∈ ns.map (fun (n : Nat) => (n : Int)) := fun k => by rw [hm k, decide_eq_true_eq]
    obtain ⟨N, rfl⟩ := nats_of (L := l) fun k hk => by
      obtain ⟨n, _, rfl⟩ := List.mem_map.mp ((hm' k).mp hk)
      exact Int.natCast_nonneg n
    refine q N _ _ ⟨?_, fun k => ?_, ?_⟩ (g2.trans ((Ex.new hb).trans (Ex.new hp))) (.lst (SqL.of upd_same) (by rw [← ints_nat]; exact ints_dpa _))
    · rw [List.pairwise_map] at hs
      exact hs.imp fun h => by omega
    · have := hm' (k : Int)
      simp only [List.mem_map] at this
      constructor
      · intro hk
        obtain ⟨j, hj, e⟩ := this.mp ⟨k, hk, rfl⟩
        rw [← show j = k by omega]; exact hj
      · intro hk
        obtain ⟨j, hj, e⟩ := this.mpr ⟨k, hk, rfl⟩
        rw [← show j = k by omega]; exact hj
    · rw [List.length_map] at hl hc
      omega
variable {D : Ends} {tz : TS}
variable (K) in
theorem s_sort {ns : List Nat} {i : Nat} (hz : ns.length < 64) (ht : EvD K te σ H (.list (ns.map intN))) (k : ∀ L v H1, Sorted ns L → Ex H H1 → Dp K H1 v (.list (L.map intN)) → D.nx (σ.set i (some v)) H1) :
    tAsg (tCB (rSortedSet w) (tCons (tCB (rSetL K w) (tCons te tNil)) tNil)) (gName i) D σ H := ev_sort hz ht (Ex.refl H) k
variable (K) in
theorem q_sort {ns : List Nat} {i j : Nat} (hz : ns.length < 64) (ht : EvD K te σ H (.list (ns.map intN))) (k : ∀ L v p H1, Sorted ns L → Ex H H1 → H p = none → Own K H1 p [] → Dp K H1 v (.list (L.map intN)) → tz D ((σ.set i (some v)).set j (some (.ref p))) H1) :
    tSeq (tPar i j (tCons (tCB (rSortedSet w) (tCons (tCB (rSetL K w) (tCons te tNil)) tNil)) (tCons (tLst tNil) tNil))) tz D σ H :=
  ev_sort hz ht (Ex.refl H) fun L v H1 hs e1 dv => ⟨Nat.zero_le _, fun p np => ⟨v, .ref p, rfl, k L v p _ hs (e1.trans (Ex.new np)) (fresh_ex e1 np) (Own.new upd_same) (dp_ex (Ex.new np) dv)⟩⟩
end
end Bw
end
section
namespace Bfb
/-! closing's steps -/
/-- the list behind one run -/
def BehL (L : List Nat) (a k : Nat) (L' : List Nat) : Prop := ∀ c, c ∈ L' ↔ c = a ∨ ∃ d ∈ L, a * k < d ∧ c = d - a * k
structure Head (L : List Nat) (a : Nat) : Prop where
  mem : a ∈ L
  pos : 0 < a
  min : ∀ c ∈ L, a ≤ c
theorem cl_flat {L : List Nat} {a : Nat} (h : Head L a) (hf : ∀ c ∈ L, c % a = 0) : clRow L = ([], a) :=
  clRow_eq (good_flat ⟨h.mem, h.pos⟩ fun c hc => hf c hc.1)
theorem cl_run {L L' : List Nat} {a k c0 : Nat} (h : Head L a) (hc : c0 ∈ L) (hc0 : c0 % a ≠ 0) (hk : c0 / a = k) (hm : ∀ c ∈ L, c % a ≠ 0 → k ≤ c / a) (b : BehL L a k L') : clRow L = ((a, k) :: (clRow L').1, (clRow L').2) := by
  have hcm : a * k = k * a := Nat.mul_comm a k
  refine clRow_eq (good_step (c0 := c0) (l := PosIn L) ⟨h.mem, h.pos⟩ h.pos (fun c hc => h.min c hc.1) (fun c hc => hm c hc.1) ⟨hc, ?_⟩ hc0 hk ((clRow_good L').congr fun c => ?_))
  · exact Nat.pos_of_ne_zero fun z => hc0 (by rw [z, Nat.zero_mod])
  · constructor
    · rintro ⟨h1, h2⟩
      rcases (b c).mp h1 with h1 | ⟨d, hd, h3, h4⟩
      · exact .inl h1
      · exact .inr ⟨d, ⟨hd, by omega⟩, by rw [← hcm]; exact h3, by rw [← hcm]; exact h4⟩
    · rintro (h1 | ⟨d, hd, h3, h4⟩)
      · exact ⟨(b c).mpr (.inl h1), by have := h.pos; omega⟩
      · exact ⟨(b c).mpr (.inr ⟨d, hd.1, by rw [hcm]; exact h3, by rw [hcm]; exact h4⟩), by omega⟩
theorem behL_head {L L' : List Nat} {a k c0 : Nat} (h : Head L a) (hc : c0 ∈ L) (hc0 : c0 % a ≠ 0) (hk : c0 / a = k) (hm : ∀ c ∈ L, c % a ≠ 0 → k ≤ c / a) (b : BehL L a k L') : (∃ c ∈ L', c < a) ∧ ∀ c ∈ L', 0 < c ∧ ∃ d ∈ L, c ≤ d := by
  have h1 := Nat.div_add_mod c0 a
  rw [hk] at h1
  have h2 := Nat.mod_lt c0 h.pos
  refine ⟨⟨c0 % a, (b _).mpr (.inr ⟨c0, hc, by omega, by omega⟩), h2⟩, fun c hc' => ?_⟩
  rcases (b c).mp hc' with h3 | ⟨d, hd, h3, h4⟩
  · exact ⟨by rw [h3]; exact h.pos, a, h.mem, by omega⟩
  · exact ⟨by omega, d, hd, by omega⟩
theorem head_of {a : Nat} {L : List Nat} (h : (a :: L).Pairwise (· < ·)) (hp : ∀ c ∈ a :: L, 0 < c) : Head (a :: L) a :=
  ⟨List.mem_cons_self, hp a List.mem_cons_self, fun c hc => by
    rcases List.mem_cons.mp hc with rfl | hc
    · exact Nat.le_refl _
    · exact Nat.le_of_lt ((List.pairwise_cons.mp h).1 c hc)⟩
theorem head_le {a : Nat} {L : List Nat} (h : (a :: L).Pairwise (· ≤ ·)) (hp : ∀ c ∈ a :: L, 0 < c) : Head (a :: L) a :=
  ⟨List.mem_cons_self, hp a List.mem_cons_self, fun c hc => by
    rcases List.mem_cons.mp hc with rfl | hc
    · exact Nat.le_refl _
    · exact (List.pairwise_cons.mp h).1 c hc⟩
theorem cl_nil {L : List Nat} (h : ∀ c ∈ L, c = 0) : clRow L = ([], 0) := clRow_eq (good_nil fun c hc => by have := h c hc.1; have := hc.2; omega)
/-- a row of counts below a bound has few runs -/
theorem cl_len {l : List Nat} (h : ∀ c ∈ l, c < 2 ^ 30) : (clRow l).1.length ≤ 58 := by
  by_cases hn : ∃ c, PosIn l c
  · obtain ⟨c, hc⟩ := hn
    have g := clRow_row l
    have := fstep_least g.ok ((g.mem c).mpr (Cl.base hc)) hc.2
    have := h c hc.1
    exact len_le 29 g.ok (by omega)
  · rw [cl_nil (L := l) (fun c hc => Classical.byContradiction fun z => hn ⟨c, hc, by omega⟩)]
    exact Nat.zero_le _
theorem min_mem : ∀ {l : List Nat}, l ≠ [] → ∃ m, m ∈ l ∧ ∀ y ∈ l, m ≤ y
  | [a], _ => ⟨a, List.mem_cons_self, fun y hy => by rw [List.mem_singleton.mp hy]; exact Nat.le_refl _⟩
  | a :: b :: l, _ => by
    obtain ⟨m, hm, hl⟩ := min_mem (l := b :: l) (by simp)
    by_cases h : a ≤ m
    · exact ⟨a, List.mem_cons_self, fun y hy => by
        rcases List.mem_cons.mp hy with rfl | hy
        · exact Nat.le_refl _
        · exact Nat.le_trans h (hl y hy)⟩
    · exact ⟨m, List.mem_cons_of_mem _ hm, fun y hy => by
        rcases List.mem_cons.mp hy with rfl | hy
        · omega
        · exact hl y hy⟩
end Bfb
end
section
set_option Elab.async false
set_option linter.all false
set_option maxRecDepth 100000
namespace Bw
open PySem PySem.Spec PyProof.Rows L2 Bfb
local macro_rules | `(tactic| walk_at "ex") => `(tactic| first
  | assumption
  | exact Ex.refl _
  | (refine Ex.trans ?_ (by assumption); walk_at "ex"))
local macro_rules | `(tactic| walk_at "om") => `(tactic| first | omega | assumption | (left; constructor <;> omega) | (right; constructor <;> omega) | decide)
local macro_rules | `(tactic| walk_at "ln") => `(tactic| first | decide | (simp only [List.length_cons, List.length_nil, List.length_append, List.length_map]; omega))
local macro_rules | `(tactic| walk_at "rd") => `(tactic| first
  | with_reducible exact rd_plus
  | with_reducible exact rd_sub
  | with_reducible exact rd_lt
  | with_reducible exact rd_le
  | with_reducible exact rd_gt
  | with_reducible exact rd_ge
  | with_reducible exact rd_eqI
  | with_reducible exact rd_neI
  | ((with_reducible apply rd_eqD); rfl; rfl)
  | ((with_reducible apply rd_neD); rfl; rfl)
  | ((with_reducible apply rd_mul); walk_at "om")
  | ((with_reducible apply rd_div); walk_at "om"; walk_at "om")
  | ((with_reducible apply rd_mod); walk_at "om")
  | ((with_reducible apply rd_divW); walk_at "om"; walk_at "om")
  | ((with_reducible apply rd_ixT); rfl)
  | ((with_reducible apply rd_ixL); rfl)
  | with_reducible exact rd_isNi
  | with_reducible exact rd_isNn
  | with_reducible exact rd_isNt
  | with_reducible exact rd_notNn)
local macro_rules | `(tactic| walk_at "ev") => `(tactic| first
  | with_reducible exact evd_int
  | ((with_reducible apply evd_varI); rfl)
  | ((with_reducible apply evd_varB); rfl)
  | ((with_reducible apply evd_var); rfl; assumption; walk_at "ex")
  | with_reducible exact evd_bl
  | with_reducible exact evd_non
  | with_reducible exact evd_str
  | ((with_reducible apply evd_op); walk_at "ev"; walk_at "ev"; walk_at "rd")
  | ((with_reducible apply evd_tup); walk_at "ea"; walk_at "ln")
  | ((with_reducible apply evd_lst); walk_at "ea"; walk_at "ln")
  | ((with_reducible apply evd_isInt); walk_at "ev")
  | ((with_reducible apply evd_isBool); walk_at "ev")
  | ((with_reducible apply evd_isTuple); walk_at "ev")
  | ((with_reducible apply evd_cb); walk_at "ea"; walk_at "rc")
  | with_reducible exact evd_neg1
  | ((with_reducible apply evd_notV); walk_at "ev")
  | ((with_reducible apply evd_call); walk_at "ea"; assumption))
local macro_rules | `(tactic| walk_at "ea") => `(tactic| first
  | with_reducible exact evda_nil
  | ((with_reducible apply evda_cons); walk_at "ev"; walk_at "ea")
  | ((with_reducible apply evda_starT); walk_at "ev"; walk_at "ea")
  | ((with_reducible apply evda_starL); walk_at "ev"; walk_at "ea"))
local macro_rules | `(tactic| walk_at "rc") => `(tactic| first
  | with_reducible exact rc_len
  | with_reducible exact rc_lenT
  | with_reducible exact rc_tupL
  | with_reducible exact rc_tupT
  | with_reducible exact rc_listL
  | with_reducible exact rc_listT
  | with_reducible exact rc_min2
  | with_reducible exact rc_max2
  | with_reducible exact rc_int1
  | with_reducible exact rc_abs
  | with_reducible exact rc_all
  | with_reducible exact rc_sum)
local macro_rules | `(tactic| walk_at "et") => `(tactic| first
  | ((with_reducible apply et_test (K := ‹PySem.W.Frag›)); walk_at "ev")
  | ((with_reducible apply et_B (K := ‹PySem.W.Frag›)); walk_at "ev")
  | ((with_reducible apply et_not); walk_at "et"))

variable {P : Program} {w : World} {K : PySem.W.Frag} {mg : Str → Option Value} {base : Heap}
abbrev s_checked_counts : Stmt := topS 17
abbrev N_checked_counts : List Str := ["value", "count"]
theorem sc_checked_counts : FnScope N_checked_counts ["value"] (defScope s_checked_counts) := ⟨rfl, rfl, rfl, by decide +kernel, rfl, by decide +kernel, by decide +kernel⟩
abbrev s_closing : Stmt := topS 18
abbrev N_closing : List Str := ["counts", "count", "left", "runs", "step", "turns", "times", "behind"]
theorem sc_closing : FnScope N_closing ["counts"] (defScope s_closing) := ⟨rfl, rfl, rfl, by decide +kernel, rfl, by decide +kernel, by decide +kernel⟩
abbrev s_tellers : Stmt := topS 19
abbrev N_tellers : List Str := ["falling", "runs", "end", "found", "barred", "begin", "step", "times", "count"]
theorem sc_tellers : FnScope N_tellers ["falling"] (defScope s_tellers) := ⟨rfl, rfl, rfl, by decide +kernel, rfl, by decide +kernel, by decide +kernel⟩
section
variable {σ : L2.St} {H : Hp} {ta : TE} {d : PyData} {E : XK}
theorem evd_seq (h : EvD K ta σ H d) : EvD K (tCall (sp_sequence K) [] E (tCons ta tNil)) σ H (.bool (kL d || kT d)) := fun H1 g Q q =>
  h H1 g _ fun v H2 g2 dv => ⟨v, tyD d, kL d, kT d, by rw [List.append_nil], fun H' e => tyx (dp_ex e dv), kit_list d, kit_tuple d, fun H3 g3 => q _ H3 (g2.trans g3) (.bl _)⟩
end
theorem seq_kind (b : Bool) (ds : List PyData) : (kL (Seq b ds) || kT (Seq b ds)) = true := by cases b <;> rfl
theorem dp_seq {H : Hp} {v : V} {b : Bool} {ds : List PyData} (h : Dp K H v (Seq b ds)) : EvDA K tNil [] H [] := evda_nil
def R_counts (ds : List PyData) (d : PyData) : Prop := ∃ (b : Bool) (l : List Nat), l.length ≤ 100000 ∧ ds = [Seq b (l.map intN)] ∧ d = .tuple (l.map intN)
theorem rc_tupS {b : Bool} {ds : List PyData} {H : Hp} : RCD K (fun xs H Q => ∃ p ys, xs = [.ref p] ∧ ((SqL K H p ys ∧ ∀ l, H l = none → Q (.ref l) (upd H l (.tup ys))) ∨ (SqT K H p ys ∧ Q (.ref p) H))) H [Seq b ds] (.tuple ds) := by
  cases b
  · exact rc_tupT
  · exact rc_tupL
theorem d_checked_counts (F : Fd K mg "checked_counts" s_checked_counts) (B : Nm mg) (D_is_sequence : Df P w K mg base "is_sequence" 1 ["value"] (sp_sequence K)) (D_is_number : Df P w K mg base "is_number" 2 ["value"] (spP K R_number)) : Df P w K mg base "checked_counts" 3 ["value"] (spP K R_counts) := by
  refine d_pure F sc_checked_counts (fun _ _ _ _ _ _ us hl => match us, hl with | [_], _ => rfl) (by rintro _ _ ⟨b, l, hz, rfl, rfl⟩; rfl) fun f cdv A outer s H vs ds d Q E hr hds hR k => ?_
  have hu64 := hr.units
  have hu65 := room65 hr
  have hu1 := room1 hr
  obtain ⟨b, l, hz, rfl, rfl⟩ := hR
  obtain ⟨v0, rfl, h0⟩ := dpa1 hds
  refine ⟨_, (pss_cons (ps_if (PW.pt (pw_or (pt_not (pt_val (pe_df D_is_sequence (hr.mono (by decide)) (by rfl) (pa_cons (pv 0) pa_nil)))) (pw_or1 (pt_not (pt_val (pe_callB (cr_all rfl) (by rfl) B.all (by decide +kernel) (pa_cons (pe_lc (own := [("count", 1)]) rfl sc_checked_counts.nd (pi_seqK (K := K) rfl (pv 0)) (blkOk_by (own := [("count", 1)]) (N := N_checked_counts) (sc := defScope s_checked_counts) (by decide +kernel)) (fun _ _ _ _ _ => (pg_name (i := 1) sc_checked_counts.nd rfl (.inl rfl))) (fun _ _ _ _ _ => pts_nil) (fun _ _ _ _ _ => (pe_df D_is_number (hr.mono (by decide)) (by rfl) (pa_cons (pv 1) pa_nil)))) pa_nil))))))) (pss_one ps_never) pss_nil)
      (pss_one (ps_ret (pe_callTy call_tuple_of (by rfl) B.tuple (by decide +kernel) (pa_cons (pv 0) pa_nil))))), ?_⟩
  try dsimp only [cxOf, Cx.nox, Cx.wish]
  refine q_no (et_is (et_or (b := false) (et_not (et_B (evd_seq (by walk_at "ev")))) fun _ => et_not (et_B (b := true) (evd_is (evd_all (b := b) (ds := l.map intN) (fun _ => true) (by walk_at "ev") (by rw [List.length_map]; exact hz) fun x hx => ?_) (by simp)))) ?_) fun H1 e1 => ?_
  · refine lct_name (fun v => rfl) fun v H1 e dv => ⟨et_yes, fun _ => ?_⟩
    obtain ⟨n, _, rfl⟩ := List.mem_map.mp hx
    exact evd_call (by walk_at "ea") (num_int n)
  · rw [seq_kind]; rfl
  exact s_ret K (d := .tuple (l.map intN)) (evd_cb (evda_cons (d := Seq b (l.map intN)) (by walk_at "ev") evda_nil) rc_tupS) fun v H2 e2 dv => k v H2 (by walk_at "ex") dv
def R_closing (ds : List PyData) (d : PyData) : Prop := ∃ (b : Bool) (l : List Nat), l.length < 64 ∧ (∀ c ∈ l, c < 2 ^ 30) ∧ ds = [Seq b (l.map intN)] ∧ d = rowD (clRow l)
theorem d_closing (F : Fd K mg "closing" s_closing) (B : Nm mg) (D_checked_counts : Df P w K mg base "checked_counts" 3 ["value"] (spP K R_counts)) : Df P w K mg base "closing" 4 ["counts"] (spP K R_closing) := by
  refine d_pure F sc_closing (fun _ _ _ _ _ _ us hl => match us, hl with | [_], _ => rfl) (by rintro _ _ ⟨b, l, hz, hb, rfl, rfl⟩; rfl) fun f cdv A outer s H vs ds d Q E hr hds hR k => ?_
  have hu64 := hr.units
  have hu65 := room65 hr
  have hu1 := room1 hr
  obtain ⟨b, l, hz, hb, rfl, rfl⟩ := hR
  obtain ⟨v0, rfl, h0⟩ := dpa1 hds
  refine ⟨_, (pss_cons (ps_par (i := 2) (j := 3) (by rfl) sc_closing.nd rfl rfl (by decide) rfl rfl (pa_cons (pe_callB (cr_sortedSet rfl) (by rfl) B.sorted (by decide +kernel) (pa_cons (pe_callTy (cr_setL rfl) (by rfl) B.set (by decide +kernel) (pa_cons (pe_lc (own := [("count", 1)]) rfl sc_closing.nd (pi_seqK (K := K) rfl (pe_df D_checked_counts (hr.mono (by decide)) (by rfl) (pa_cons (pv 0) pa_nil))) (blkOk_by (own := [("count", 1)]) (N := N_closing) (sc := defScope s_closing) (by decide +kernel)) (fun _ _ _ _ _ => (pg_name (i := 1) sc_closing.nd rfl (.inl rfl))) (fun _ _ _ _ _ => pts_one (pt_cmpR op_gt (pv 1) pe_int (nomark _))) (fun _ _ _ _ _ => (pv 1))) pa_nil)) pa_nil)) (pa_cons (pe_lst pa_nil) pa_nil)) (by rfl))
      (pss_cons (ps_while PassesOwn.never (pt_cmpR op_gt (pe_callB (call_lenK (K := K) rfl) (by rfl) B.len PySem.boot_len (pa_cons (pv 2) pa_nil)) pe_int (nomark _)) (pss_cons (ps_set (i := 4) sc_closing.nd rfl (.inr rfl) (pe_ix (ix_K (K := K) rfl) (pv 2) pe_int (fun _ _ => rfl)))
      (pss_cons (ps_setLc (i := 5) (own := [("count", 1)]) rfl sc_closing.nd rfl rfl (sw_true rfl rfl rfl (by decide +kernel)) (pi_seqK (K := K) rfl (pv 2)) (blkOk_by (own := [("count", 1)]) (N := N_closing) (sc := defScope s_closing) (by decide +kernel)) (fun _ _ _ _ _ => (pg_name (i := 1) sc_closing.nd rfl (.inl rfl))) (fun _ _ _ _ _ => pts_one (pt_cmpR op_gt (pe_op op_modN (pv 1) (pv 4)) pe_int (nomark _))) (fun _ _ _ _ _ => (pe_op op_fdivN (pv 1) (pv 4))))
      (pss_cons (ps_if (pt_cmpR (op_eqK (K := K) hu64 rfl) (pe_callB (call_lenK (K := K) rfl) (by rfl) B.len PySem.boot_len (pa_cons (pv 5) pa_nil)) pe_int (nomark _)) (pss_one (ps_ret (pe_tup (pa_cons (pe_callTy call_tuple_of (by rfl) B.tuple (by decide +kernel) (pa_cons (pv 3) pa_nil)) (pa_cons (pv 4) pa_nil))))) pss_nil)
      (pss_cons (ps_set (i := 6) sc_closing.nd rfl (.inr rfl) (pe_callB (cr_min rfl) (by rfl) B.min (by decide +kernel) (pa_cons (pv 5) pa_nil)))
      (pss_cons (ps_expr (pe_bm PySem.F.plainAttrs_list PySem.F.slot_list_append PySem.F.type_list_append mt_append (pv 3) (pa_cons (pe_tup (pa_cons (pv 4) (pa_cons (pv 6) pa_nil))) pa_nil)))
      (pss_cons (ps_setLc (i := 7) (own := [("count", 1)]) rfl sc_closing.nd rfl rfl (sw_true rfl rfl rfl (by decide +kernel)) (pi_seqK (K := K) rfl (pv 2)) (blkOk_by (own := [("count", 1)]) (N := N_closing) (sc := defScope s_closing) (by decide +kernel)) (fun _ _ _ _ _ => (pg_name (i := 1) sc_closing.nd rfl (.inl rfl))) (fun _ _ _ _ _ => pts_one (pt_cmpR op_gt (pv 1) (pe_op op_mul (pv 4) (pv 6)) (nomark _))) (fun _ _ _ _ _ => (pe_op op_sub (pv 1) (pe_op op_mul (pv 4) (pv 6)))))
      (pss_one (ps_set (i := 2) sc_closing.nd rfl (.inl rfl) (pe_callB (cr_sortedSet rfl) (by rfl) B.sorted (by decide +kernel) (pa_cons (pe_callTy (cr_setL rfl) (by rfl) B.set (by decide +kernel) (pa_cons (pe_lst (pa_cons (pv 4) (pa_starK (K := K) rfl (pv 7) pa_nil))) pa_nil)) pa_nil)))))))))))
      (pss_one (ps_ret (pe_tup (pa_cons (pe_tup pa_nil) (pa_cons pe_int pa_nil))))))), ?_⟩
  try dsimp only [cxOf, Cx.nox, Cx.wish]
  have fl := List.length_filter_le (fun c => decide (0 < c)) l
  refine q_sort K (ns := l.filter fun c => decide (0 < c)) (by omega) (evd_lcI (b := false) intN l (fun c => decide (0 < c)) intN (evd_call (by walk_at "ea") ⟨b, l, by omega, rfl, rfl⟩) (by omega) (fun _ _ _ => rfl) fun c hc => ?_) fun L v p H1 hs e1 np op dv => ?_
  · refine lct_name (fun v => rfl) fun v H1 e dv => ?_
    have dv : Dp K H1 v (.int (c : Nat)) := dv
    cases dp_int dv
    exact ⟨et_is (a := decide ((0 : Int) < (c : Int))) (by walk_at "et") (by simp), fun _ => show EvD K _ _ _ (.int (c : Nat)) from by walk_at "ev"⟩
  have hfl := cl_len hb
  refine q_while (fun m σ' H' => ∃ (L : List Nat) (rs : Runs) (vl : V) (x4 x5 x6 x7 : Option V), L.headD 0 = m ∧ σ' = [some v0, none, some vl, some (.ref p), x4, x5, x6, x7] ∧ Bts [p] H1 H' ∧ Own K H' p (rs.map runD) ∧ Dp K H' vl (.list (L.map intN)) ∧
    L.Pairwise (· < ·) ∧ (∀ c ∈ L, 0 < c ∧ c < 2 ^ 30) ∧ L.length < 64 ∧ clRow l = (rs ++ (clRow L).1, (clRow L).2) ∧ (L = [] → rs = [])) (L.headD 0) ⟨L, [], v, none, none, none, none, rfl, rfl, Bts.refl, op, dv, hs.1, fun c hc => ?_, by have := hs.2.2; omega, ?_, fun _ => rfl⟩ ?_
  · have := List.mem_filter.mp ((hs.2.1 c).mp hc)
    exact ⟨by simpa using this.2, hb c this.1⟩
  · rw [List.nil_append]
    refine clRow_congr (fun c hc => ?_) fun c hc => Cl.base (List.mem_filter.mp ((hs.2.1 c).mp hc)).1
    by_cases h0 : 0 < c
    · exact Cl.base ((hs.2.1 c).mpr (List.mem_filter.mpr ⟨hc, by simpa using h0⟩))
    · rw [show c = 0 by omega]
      exact (Cl.closed _).zero
  rintro m σ' H' ⟨L, rs, vl, x4, x5, x6, x7, hm, rfl, b1, o1, dl, hasc, hpos, hlen, hcl, hnil⟩
  refine ⟨decide (0 < L.length), et_is (a := decide ((0 : Int) < ((L.map intN).length : Int))) (by walk_at "et") (decide_eq_decide.mpr (by rw [List.length_map]; omega)), fun h H2 e2 => ?_, fun h H2 e2 => ?_⟩
  case refine_2 =>
    have hL : L = [] := List.length_eq_zero_iff.mp (by have := of_decide_eq_false h; omega)
    subst hL
    have hr := hnil rfl
    subst hr
    rw [cl_nil (L := []) (fun c hc => nomatch hc)] at hcl
    refine s_ret K (d := rowD (clRow l)) (evd_is (d := .tuple [.tuple [], .int 0]) (by walk_at "ev") (by rw [hcl]; rfl)) fun v H3 e3 dv => k v H3 ((ex_bts e1 b1 np).trans (e2.trans e3)) dv
  obtain ⟨a, L0, rfl⟩ : ∃ a L0, L = a :: L0 := by
    cases L with
    | nil => simp at h
    | cons a L0 => exact ⟨a, L0, rfl⟩
  have hd := head_of hasc fun c hc => (hpos c hc).1
  have ha := hpos a List.mem_cons_self
  have a0 : atI ((a :: L0).map intN) (0 : Int) = some (.int (a : Nat)) := at_nat (i := 0) rfl
  refine q_set K (d := .int (a : Nat)) (evd_op (d := .list ((a :: L0).map intN)) (by walk_at "ev") (by walk_at "ev") (rd_ixL a0)) fun v4 H3 e3 d4 => ?_
  cases dp_int d4
  let T : List Nat := ((a :: L0).filter fun c => decide (0 < c % a)).map fun c => c / a
  refine q_set K (d := .list (T.map intN)) (evd_is (evd_lcI (b := true) intN (a :: L0) (fun c => decide (0 < c % a)) (fun c => intN (c / a)) (show EvD K _ _ _ (.list ((a :: L0).map intN)) from by walk_at "ev") (by omega) (fun _ _ _ => rfl) fun c hc => ?_) (by rw [List.map_map]; rfl)) fun v5 H4 e4 d5 => ?_
  · refine lct_name (fun v => rfl) fun v H1 e dv => ?_
    have dv : Dp K H1 v (.int (c : Nat)) := dv
    cases dp_int dv
    refine ⟨et_is (a := decide ((0 : Int) < (c : Int).fmod (a : Int))) (by walk_at "et") (decide_eq_decide.mpr (by rw [fmodN]; omega)), fun _ => ?_⟩
    exact evd_is (d := .int ((c : Int).fdiv (a : Int))) (by walk_at "ev") (by rw [fdivN]; rfl)
  have o4 := o1.mono (e2.trans (e3.trans e4))
  have p4 := o4.dp
  refine q_when (b := decide (T.length = 0)) (et_is (a := decide (((T.map intN).length : Int) = 0)) (by walk_at "et") (decide_eq_decide.mpr (by rw [List.length_map]; omega))) (fun hT H5 e5 => ?_) (fun hT H5 e5 => ?_)
  · have hT : T = [] := List.length_eq_zero_iff.mp (of_decide_eq_true hT)
    have hfl : clRow (a :: L0) = ([], a) := cl_flat hd fun c hc => by
      have h1 := List.map_eq_nil_iff.mp hT
      have h2 := List.filter_eq_nil_iff.mp h1 c hc
      simpa using h2
    rw [hfl, List.append_nil] at hcl
    refine s_ret K (d := rowD (clRow l)) (evd_is (d := .tuple [.tuple (rs.map runD), .int (a : Nat)]) (by walk_at "ev") (by rw [hcl]; rfl)) fun v H6 e6 dv => k v H6 ((ex_bts e1 b1 np).trans (by walk_at "ex")) dv
  have hT : T ≠ [] := fun z => by rw [z] at hT; simp at hT
  obtain ⟨t, ht, htl⟩ := min_mem hT
  obtain ⟨c0, hc0, hk0⟩ := List.mem_map.mp ht
  obtain ⟨hc1, hc2⟩ := List.mem_filter.mp hc0
  have hc2 : c0 % a ≠ 0 := by have := of_decide_eq_true hc2; omega
  have hmin : ∀ c ∈ a :: L0, c % a ≠ 0 → t ≤ c / a := fun c hc hn => htl _ (List.mem_map.mpr ⟨c, List.mem_filter.mpr ⟨hc, by simp; omega⟩, rfl⟩)
  have ht1 : 0 < t := by rw [← hk0]; exact Nat.div_pos (hd.min c0 hc1) hd.pos
  refine q_set K (d := .int (t : Nat)) (evd_cb (ds := [.list ((T.map (fun (n : Nat) => (n : Int))).map .int)]) (evda_cons (evd_is (d := .list (T.map intN)) (by walk_at "ev") (by rw [ints_nat])) evda_nil) (rc_min (List.mem_map.mpr ⟨t, ht, rfl⟩) fun y hy => ?_)) fun v6 H6 e6 d6 => ?_
  · obtain ⟨n, hn, rfl⟩ := List.mem_map.mp hy
    have := htl n hn
    omega
  cases dp_int d6
  have hlen2 : (rs ++ (clRow (a :: L0)).1).length ≤ 58 := by rw [hcl] at hfl; exact hfl
  have o6 := o4.mono (e5.trans e6)
  refine q_app K o6 rfl (noLs_all fun d hd => by obtain ⟨p, _, rfl⟩ := List.mem_map.mp hd; rfl) (d := runD (a, t)) rfl (by rw [List.length_map]; rw [List.length_append] at hlen2; omega) (show EvD K _ _ _ (.tuple [.int (a : Nat), .int (t : Nat)]) from by walk_at "ev") fun H7 b7 o7 => ?_
  have dl6 : Dp K H6 vl (.list ((a :: L0).map intN)) := dp_ex (by walk_at "ex") dl
  have dl7 : Dp K H7 vl (.list ((a :: L0).map intN)) := dpl_own o6 b7 (noLs_all fun d hd => by obtain ⟨p, _, rfl⟩ := List.mem_map.mp hd; rfl) (fun xs h1 h2 => by
    cases rs with
    | nil => cases h2; cases h1
    | cons r rs => cases h1 with | cons q1 _ => cases h2 with | cons q2 _ => cases q1; cases q2) dl6
  let B : List Nat := ((a :: L0).filter fun c => decide (a * t < c)).map fun c => c - a * t
  refine q_set K (d := .list (B.map intN)) (evd_is (evd_lcI (b := true) intN (a :: L0) (fun c => decide (a * t < c)) (fun c => intN (c - a * t)) (show EvD K _ _ _ (.list ((a :: L0).map intN)) from by walk_at "ev") (by omega) (fun _ _ _ => rfl) fun c hc => ?_) (by rw [List.map_map]; rfl)) fun v8 H8 e8 d8 => ?_
  · refine lct_name (fun v => rfl) fun v H1 e dv => ?_
    have dv : Dp K H1 v (.int (c : Nat)) := dv
    cases dp_int dv
    refine ⟨et_is (a := decide ((a : Int) * (t : Int) < (c : Int))) (by walk_at "et") (decide_eq_decide.mpr (by rw [← Int.natCast_mul]; omega)), fun hlt => ?_⟩
    have hlt := of_decide_eq_true hlt
    exact evd_is (d := .int ((c : Int) - (a : Int) * (t : Int))) (by walk_at "ev") (by
      show PyData.int _ = PyData.int ((c - a * t : Nat) : Int)
      congr 1; rw [← Int.natCast_mul]; omega)
  have hBl : B.length ≤ L0.length := by
    show (List.map _ _).length ≤ _
    rw [List.length_map, List.filter_cons_of_neg (by have := Nat.le_mul_of_pos_right a ht1; simp; omega)]
    exact List.length_filter_le _ _
  refine s_sort K (ns := a :: B) (by rw [List.length_cons] at hlen ⊢; omega) (evd_is (d := .list (.int (a : Nat) :: (B.map intN ++ []))) (evd_lst (evda_cons (by walk_at "ev") (evda_starL (by walk_at "ev") evda_nil)) (by simp at hlen ⊢; omega)) (by rw [List.append_nil]; rfl)) fun L' vl' H9 hs' e9 dl9 => ?_
  have beh : BehL (a :: L0) a t L' := fun c => by
    rw [hs'.2.1 c, List.mem_cons]
    constructor
    · rintro (h | h)
      · exact .inl h
      · obtain ⟨d, hd, rfl⟩ := List.mem_map.mp h
        obtain ⟨h1, h2⟩ := List.mem_filter.mp hd
        exact .inr ⟨d, h1, of_decide_eq_true h2, rfl⟩
    · rintro (h | ⟨d, h1, h2, rfl⟩)
      · exact .inl h
      · exact .inr (List.mem_map.mpr ⟨d, List.mem_filter.mpr ⟨h1, decide_eq_true h2⟩, rfl⟩)
  obtain ⟨⟨c1, hc1', hlt⟩, hall⟩ := behL_head hd hc1 hc2 hk0 hmin beh
  have hrun := cl_run hd hc1 hc2 hk0 hmin beh
  refine ⟨L'.headD 0, ?_, L', rs ++ [(a, t)], vl', _, _, _, _, rfl, rfl, ?_, ?_, dl9, hs'.1, fun c hc => ?_, ?_, ?_, fun z => ?_⟩
  · rw [← hm]
    show _ < a
    cases L' with
    | nil => cases hc1'
    | cons x L' =>
      show x < a
      rcases List.mem_cons.mp hc1' with h | h
      · omega
      · have := (List.pairwise_cons.mp hs'.1).1 c1 h
        omega
  · exact b1.trans ((Bts.of (show Ex H' H6 by walk_at "ex")).trans (b7.ex (e8.trans e9)))
  · have := o7.mono (e8.trans e9)
    rw [List.map_append]
    exact this
  · obtain ⟨h1, d, hd', h2⟩ := hall c hc
    have := (hpos d hd').2
    omega
  · have := hs'.2.2
    rw [List.length_cons] at this hlen
    omega
  · rw [hcl, hrun, List.append_assoc]
    rfl
  · rw [z] at hc1'; cases hc1'
end Bw
end
section
set_option Elab.async false
set_option linter.all false
set_option maxRecDepth 100000
set_option maxHeartbeats 4000000
/-! enumerate(t), t a tuple. -/
namespace Bw
open PySem PySem.Spec PyProof.Rows L2
theorem enum_meets {v : Value} {o : Obj} {N : Heap → Prop} (B : Begins v o N) :
    Meets (Builtin.«enumerate.__new__» ⟨[.type "enumerate", v], []⟩) (fun _ R s => N s.heap ∧
      R (.ok (.ret (.ref (s.heap.push o).objs.size))) { s with heap := (s.heap.push o).push { cls := .type "enumerate", data := .fields #[.none, .bool false, .ref s.heap.objs.size, rawInt 0, .none, .none] } }) :=
  .of_wp fun prog w A R s h => by
    obtain ⟨hp, g, d, tk, os⟩ := s
    obtain ⟨z1, z⟩ := h
    have se := sub_enumerate
    have it1 : ∀ {A' : Around} {E' : Value → Shared → Prop} {Q' : Value → Shared → Prop}, Q' (.ref hp.objs.size) ⟨hp.push o, g, d, tk, os⟩ → wpAny (model prog w) A' (pyIter v) Q' E' ⟨hp, g, d, tk, os⟩ :=
      fun y => B.iter prog w _ _ ⟨hp, g, d, tk, os⟩ _ z1 y
    wp_walk using it1
    refine wpAny_stack_any fun _ => wpAny_pure ?_
    split
    · rename_i c _ _ _ _ _
      cases (c == Value.type "enumerate") <;> (wp_walk using it1; exact ⟨_, rfl, z⟩)
    · wp_walk using it1
      exact ⟨_, rfl, z⟩
section
variable {prog : Program} {w : World} {A : Around} {E : Value → Shared → Prop} {s : Shared}
theorem enum_new {v : Value} {o : Obj} {N : Heap → Prop} {Q : Value → Shared → Prop} (B : Begins v o N) (z : N s.heap)
    (q : ∀ g, IsEnum g (s.heap.objs.size + 1) s.heap.objs.size 0 .none → g.get? s.heap.objs.size = some o → (∀ b u, s.heap.get? b = some u → g.get? b = some u) → Q (.ref (s.heap.objs.size + 1)) { s with heap := g }) :
    wpAny (model prog w) A (call (.type "enumerate") [v]) Q E s := by
  have hz : (s.heap.push o).objs.size = s.heap.objs.size + 1 := Heap.size_push ..
  refine callType_new F.called_enumerate (by decide) (F.typeCall_enumerate_1 _) (F.newCall_enumerate_1 _) (fun ob => F.args_object_init_2 ob _) F.entry_enumerate_new (enum_meets B) ⟨z, ?_⟩
  show _ ∧ _
  rw [hz]
  have e := Heap.get?_push_size (s.heap.push o) (o := { cls := .type "enumerate", data := .fields #[.none, .bool false, .ref s.heap.objs.size, rawInt 0, .none, .none] }) rfl
  rw [hz] at e
  exact ⟨⟨_, e, rfl⟩, q _ e (Heap.get?_push_of_some _ (Heap.get?_push_size _ B.free)) fun b u y => Heap.get?_push_of_some _ (Heap.get?_push_of_some _ y)⟩
end
/-- the tuple at a, each item in a new pair -/
def ItT (K : PySem.W.Frag) (a : Addr) : It :=
  ⟨fun i H => ∃ (xs : List V) (x : V), SqT K H a xs ∧ xs[i]? = some x, fun i H v H' => ∃ T x, v = .ref T ∧ H T = none ∧ H' = upd H T (.tup [.int (i : Nat), x]) ∧ ∀ xs, SqT K H a xs → xs[i]? = some x, fun i H => ∃ xs : List V, SqT K H a xs ∧ xs.length = i⟩
theorem turn_enumT {P : Program} {w : World} {K : PySem.W.Frag} {elts : List Expr} {kk : Nat} {tpos : Pos} (a e it : Addr) (hae : a ≠ e) :
    Turn P w K (.Tuple elts kk tpos) (ItT K a) [e, it] e (fun i h => (∃ old, IsEnum h e it ((i : Nat) : Int) old) ∧ h.IsTupleIter it a i ∧ e ≠ it ∧ a ≠ it) where
  mem := by simp
  obj := fun i h st b hb => by
    obtain ⟨⟨old, he⟩, ⟨o, ho, hc, hd⟩, _⟩ := st
    rcases List.mem_cons.mp hb with z | z
    · rw [z]; exact ⟨_, he, fun v q => nomatch q⟩
    · rw [List.mem_singleton.mp z]; exact ⟨o, ho, fun v q => by rw [hd] at q; cases q⟩
  keep := fun i h h' st k => let ⟨⟨old, he⟩, hi, hn⟩ := st; ⟨⟨old, k e (by simp) _ he⟩, hi.at fun o q => k it (by simp) o q, hn⟩
  item := by
    intro X hP hw hK hc i pins s σ H E I hf st hg
    subst hP hw hK
    obtain ⟨⟨old, he⟩, hit, hne, hna⟩ := st
    obtain ⟨xs, x, hq, hx⟩ := hg
    obtain ⟨its, rv, p, hz⟩ := I.tuple hq
    obtain ⟨u, hu, ru⟩ := rv.get hx
    have hel : e < s.heap.objs.size := Heap.lt_size he
    have hil : it < s.heap.objs.size := by obtain ⟨_, q, _⟩ := hit; exact Heap.lt_size q
    have hiu : i < its.toArray.size := by rw [List.size_toArray]; exact (List.getElem?_eq_some_iff.mp hu).1
    have D := Draws.tuple (prog := X.prog) (w := X.w) (A := X.A.in1) (I.ok.hd hc) it a hna its.toArray
    refine wpAny_pyNext_enum_itemD D he ⟨hit, p⟩ hiu hne (fun z => ?_) fun y h' tk hy ho hst' hT hsz hk => ?_
    · rcases List.mem_cons.mp z with z | z
      · exact hne z
      · exact hae (List.mem_singleton.mp z).symm
    · have ey : y = u := by
        rw [List.getElem?_toArray, hu] at hy
        exact (Option.some.inj hy).symm
      subst ey
      refine ⟨_, rfl, wpAny_letOwnedTupleGo_enum (s := { s with heap := h', toks := tk + 1 }) ho fun h'' he' sb => ?_⟩
      have hT2 : h''.get? s.heap.objs.size = some { cls := .type "tuple", data := .seq #[.int i tk, y] } := (sb.2 _ (Nat.ne_of_gt hel)).trans hT
      have new : ObjOk X.prog X.w (upd H s.heap.objs.size (.tup [.int (i : Nat), x])) h'' s.heap.objs.size (.tup [.int (i : Nat), x]) := ⟨by show 2 ≤ sizeLine; decide, [.int i tk, y], .cons ⟨_, rfl⟩ (.cons ru .nil), ⟨_, hT2, rfl, _, rfl⟩⟩
      have I1 : Inv X pins σ (upd H s.heap.objs.size (.tup [.int (i : Nat), x])) { s with heap := h'', toks := tk + 1 } :=
        I.turnedNew (ch := [e, it]) (fun b ob hb q => (sb.2 b (fun z => hb (by simp [z]))).trans (hk b ob (fun z => hb (by simp [z])) (fun z => hb (by simp [z])) q)) hf (Nat.le_refl _) new
      refine ⟨.ref s.heap.objs.size, _, I1, rfl, ⟨_, x, rfl, I.hok.fresh (Nat.le_refl _), rfl, fun ys hy => by rw [I.tuple_inj hy hq]; exact hx⟩, ⟨⟨y, ?_⟩, hst'.1.at fun o q => (sb.2 it (Ne.symm hne)).trans q, hne, hna⟩, fun b hb => ?_⟩
      · rw [show ((i + 1 : Nat) : Int) = (i : Int) + 1 by omega]; exact he'
      · have hb' : b < s.heap.objs.size := by
          rcases List.mem_cons.mp hb with z | z
          · rw [z]; exact hel
          · rw [List.mem_singleton.mp z]; exact hil
        rw [upd_ne (Nat.ne_of_lt hb')]
        exact (hf b hb).1
  done := by
    intro X hP hw hK hc i pins s σ H E I hf st hg
    subst hP hw hK
    obtain ⟨⟨old, he⟩, hit, hne, hna⟩ := st
    obtain ⟨xs, hq, hx⟩ := hg
    obtain ⟨its, rv, p, hz⟩ := I.tuple hq
    obtain ⟨f0, f1, f2, f3, f4, f5⟩ := hf it (by simp)
    have hl := rv.length
    have hi : its.toArray.size = i := by rw [List.size_toArray]; omega
    have D := Draws.tuple (prog := X.prog) (w := X.w) (A := X.A.in1) (I.ok.hd hc) it a hna its.toArray
    refine wpAny_pyNext_enum_endD D he ⟨by rw [hi]; exact hit, p⟩ fun h' eb => ⟨rfl, I.turned (t' := s.toks) (fun b o hb q => eb b o hb q) f0 f1 f3 f4 f5⟩
  self := fun A i s Q E st h => let ⟨⟨_, he⟩, _⟩ := st; wpAny_pyIter_enum he h
def iEnT (K : PySem.W.Frag) (ta : TA) : TI := fun σ H R => ta σ H fun vs H1 => ∃ a xs, vs = [.ref a] ∧ SqT K H1 a xs ∧ R (ItT K a) H1
theorem pi_enumT {X : Cx} {e : Expr} {ta : TA} {p pos tpos : Pos} {elts : List Expr} {kk : Nat} (hg : Gl X "enumerate") (hm : X.mg "enumerate" = none) (ha : PA X [e] ta) (hs : starEach [e] X.env = [(false, eval e X.env)] := by rfl) :
    PI X (.Tuple elts kk tpos) (.Call (.Name "enumerate" p) [e] [] pos) (iEnT X.K ta) := by
  refine ⟨fun pins s σ H R I h => ?_⟩
  refine Call_ (ld_blt I hg hm boot_enumerate (PyProof.Rows.callWith_type1 (thn (ha.run pos pins s σ H _ I h) fun us s1 ⟨vs, H1, I1, r1, a, xs, ex, hq, q⟩ => ?_) hs rfl))
  subst ex
  rw [Vals.ref1 r1]
  obtain ⟨its, rv, p', hz⟩ := I1.tuple hq
  have hal : a < s1.heap.objs.size := by obtain ⟨o, ho, _⟩ := p'; exact Heap.lt_size ho
  refine enum_new (begins_tuple a its.toArray) p' fun g he hit hk => wpAny_pyIter_enum he ?_
  have I2 : Inv X pins σ H1 { s1 with heap := g } := I1.kept (t' := s1.toks) hk
  refine ⟨s1.heap.objs.size + 1, [s1.heap.objs.size + 1, s1.heap.objs.size], _, _, H1, rfl, I2, turn_enumT a (s1.heap.objs.size + 1) s1.heap.objs.size (Nat.ne_of_lt (Nat.lt_succ_of_lt hal)), ⟨⟨.none, he⟩, ⟨_, hit, rfl, rfl⟩, Nat.succ_ne_self _, Nat.ne_of_lt hal⟩, fun b hb => ?_, q⟩
  have hle : s1.heap.objs.size ≤ b := by
    rcases List.mem_cons.mp hb with z | z
    · rw [z]; exact Nat.le_add_right _ _
    · rw [List.mem_singleton.mp z]; exact Nat.le_refl _
  exact I1.fpOk hle (I1.hok.fresh hle)
theorem pi_enumTK {X : Cx} {K : PySem.W.Frag} {e : Expr} {ta : TA} {p pos tpos : Pos} {elts : List Expr} {kk : Nat} (hK : X.K = K) (hg : Gl X "enumerate") (hm : X.mg "enumerate" = none) (ha : PA X [e] ta) (hs : starEach [e] X.env = [(false, eval e X.env)] := by rfl) :
    PI X (.Tuple elts kk tpos) (.Call (.Name "enumerate" p) [e] [] pos) (iEnT K ta) := hK ▸ pi_enumT hg hm ha hs
section
variable {K : PySem.W.Frag} {σ : L2.St} {H H' : Hp} {te : TE} {d e : PyData} {ds es : List PyData} {D : Ends} {tu tz : TS} {g : TG}
variable (K) in
/-- for i, x in enumerate(t) -/
theorem s_forE (h : EvD K te σ H (.tuple ds)) (k : ∀ v H1, Ex H H1 → Dp K H1 v (.tuple ds) → ∃ Pv : Nat → L2.St → Hp → Prop, Pv 0 σ H1 ∧ (∀ i σ' H', Pv i σ' H' → Dp K H' v (.tuple ds)) ∧
    (∀ i d x σ' H' H2, ds[i]? = some d → Pv i σ' H' → Ex H' H2 → Dp K H2 x (.tuple [.int (i : Nat), d]) → g x σ' H2 fun σ2 H3 => tu { D with nx := Pv (i + 1), ct := Pv (i + 1), bk := D.nx } σ2 H3) ∧ ∀ σ' H', Pv ds.length σ' H' → D.nx σ' H') : tFor (iEnT K (tCons te tNil)) g tu D σ H := by
  refine h H (Ex.refl H) _ fun v H1 e dv => ?_
  obtain ⟨Pv, h0, hk, ht, hd⟩ := k v H1 e dv
  obtain ⟨a, xs, rfl, h1, h2⟩ := dp_tup dv
  refine ⟨a, xs, rfl, h1, ?_⟩
  refine ⟨fun i m σ' H' => m = ds.length - i ∧ i ≤ ds.length ∧ Pv i σ' H', ⟨ds.length, by simp, Nat.zero_le _, h0⟩, ?_⟩
  rintro i m σ' H' ⟨rfl, hi, p⟩
  obtain ⟨a', ys, ea, k1, k2⟩ := dp_tup (hk i σ' H' p)
  cases ea
  have hl := dpa_len k2
  by_cases hlt : i < ds.length
  · obtain ⟨v, hv, dv⟩ := dpa_get k2 (List.getElem?_eq_getElem hlt)
    refine .inr ⟨⟨ys, v, k1, hv⟩, Pv (i + 1), fun σ2 H2 p' => ⟨ds.length - (i + 1), by omega, rfl, hlt, p'⟩, fun x H2 yl => ?_⟩
    obtain ⟨T, y, rfl, hT, rfl, hy⟩ := yl
    have hy := hy ys k1
    rw [hv] at hy
    cases hy
    exact ht i _ _ _ _ _ (List.getElem?_eq_getElem hlt) p (Ex.new hT) (.tup (SqT.of upd_same) (.cons (.int _) (.cons (dp_ex (Ex.new hT) dv) .nil)))
  · have e : i = ds.length := by omega
    subst e
    exact .inl ⟨⟨ys, k1, by omega⟩, hd σ' H' p⟩
variable (K) in
theorem q_forE (h : EvD K te σ H (.tuple ds)) (k : ∀ v H1, Ex H H1 → Dp K H1 v (.tuple ds) → ∃ Pv : Nat → L2.St → Hp → Prop, Pv 0 σ H1 ∧ (∀ i σ' H', Pv i σ' H' → Dp K H' v (.tuple ds)) ∧
    (∀ i d x σ' H' H2, ds[i]? = some d → Pv i σ' H' → Ex H' H2 → Dp K H2 x (.tuple [.int (i : Nat), d]) → g x σ' H2 fun σ2 H3 => tu { D with nx := Pv (i + 1), ct := Pv (i + 1), bk := tz D } σ2 H3) ∧ ∀ σ' H', Pv ds.length σ' H' → tz D σ' H') : tSeq (tFor (iEnT K (tCons te tNil)) g tu) tz D σ H :=
  s_forE (D := { D with nx := tz D }) K h k
/-- i, (x, y) -/
theorem g_pair {i j l : Nat} {σ : L2.St} {H : Hp} {v : V} {d e f : PyData} {Q : L2.St → Hp → Prop} (h : Dp K H v (.tuple [d, .tuple [e, f]])) (k : ∀ x y z, Dp K H x d → Dp K H y e → Dp K H z f → Q (((σ.set i (some x)).set j (some y)).set l (some z)) H) :
    gTup K 2 (gCons (gName i) (gCons (gTup K 2 (gCons (gName j) (gCons (gName l) gNil))) gNil)) v σ H Q := g_tup h rfl fun xs hx => by
  obtain ⟨x, y, rfl, h1, h2⟩ := dpa2 hx
  refine ⟨x, [y], rfl, y, [], rfl, ?_⟩
  exact g_two (σ := σ.set i (some x)) h2 fun u z hu hz => ⟨rfl, k x u z h1 hu hz⟩
end
end Bw
end
section
namespace Bfb
/-! what the loops over a row's runs gather -/
def sB : Runs → Nat → List Nat
  | [], _ => []
  | (s, t) :: r, b => (b + s) :: sB r (b + s * t)
def bB : Runs → Nat → List Nat
  | [], _ => []
  | (s, t) :: r, b => (b + s * t + s) :: bB r (b + s * t)
def pB : Runs → Nat → List Piece
  | [], _ => []
  | (s, t) :: r, b => (b, s, some (b + s * t)) :: pB r (b + s * t)
theorem far_snoc : ∀ (r : Runs) (s t : Nat), far (r ++ [(s, t)]) = far r + s * t
  | [], s, t => by simp [far]
  | (s0, t0) :: r, s, t => by simp only [List.cons_append, far, far_snoc r s t]; omega
theorem sB_snoc : ∀ (r : Runs) (b s t : Nat), sB (r ++ [(s, t)]) b = sB r b ++ [b + far r + s]
  | [], b, s, t => by simp [sB, far]
  | (s0, t0) :: r, b, s, t => by simp only [List.cons_append, sB, far, sB_snoc r]; rw [Nat.add_assoc b]
theorem bB_snoc : ∀ (r : Runs) (b s t : Nat), bB (r ++ [(s, t)]) b = bB r b ++ [b + far r + s * t + s]
  | [], b, s, t => by simp [bB, far]
  | (s0, t0) :: r, b, s, t => by simp only [List.cons_append, bB, far, bB_snoc r]; rw [show b + s0 * t0 + far r = b + (s0 * t0 + far r) by omega]
theorem pB_snoc : ∀ (r : Runs) (b s t : Nat), pB (r ++ [(s, t)]) b = pB r b ++ [(b + far r, s, some (b + far r + s * t))]
  | [], b, s, t => by simp [pB, far]
  | (s0, t0) :: r, b, s, t => by simp only [List.cons_append, pB, far, pB_snoc r]; rw [show b + s0 * t0 + far r = b + (s0 * t0 + far r) by omega]
theorem starts_sB : ∀ (r : Runs) (e b : Nat), (starts r e).map (b + ·) = sB r b ++ [b + far r + e]
  | [], e, b => by simp [starts, sB, far]
  | (s, t) :: r, e, b => by
    simp only [starts, sB, far, List.map_cons, List.map_map, List.cons_append]
    congr 1
    rw [← Nat.add_assoc, ← starts_sB r e (b + s * t)]
    exact List.map_congr_left fun x _ => by simp only [Function.comp]; omega
theorem starts_eq (r : Runs) (e : Nat) : starts r e = sB r 0 ++ [far r + e] := by
  have := starts_sB r e 0
  simp only [Nat.zero_add] at this
  rw [← this, show (fun x : Nat => x) = id from rfl, List.map_id]
theorem barred_bB : ∀ (r : Runs) (b : Nat), (barred r).map (b + ·) = bB r b
  | [], b => by simp [barred, bB]
  | (s, t) :: r, b => by
    simp only [barred, bB, List.map_cons, List.map_map]
    congr 1
    · omega
    · rw [← barred_bB r (b + s * t)]
      exact List.map_congr_left fun x _ => by simp only [Function.comp]; omega
theorem barred_eq (r : Runs) : barred r = bB r 0 := by
  have := barred_bB r 0
  simp only [Nat.zero_add] at this
  rw [← this, show (fun x : Nat => x) = id from rfl, List.map_id]
theorem pieces_pB : ∀ (r : Runs) (e b : Nat), pieces r e b = pB r b ++ [(b + far r, e, none)]
  | [], e, b => by simp [pieces, pB, far]
  | (s, t) :: r, e, b => by simp only [pieces, pB, far, List.cons_append, pieces_pB r e]; rw [Nat.add_assoc b]
theorem sB_len : ∀ (r : Runs) (b : Nat), (sB r b).length = r.length
  | [], _ => rfl
  | (_, _) :: r, _ => by simp [sB, sB_len r]
theorem bB_len : ∀ (r : Runs) (b : Nat), (bB r b).length = r.length
  | [], _ => rfl
  | (_, _) :: r, _ => by simp [bB, bB_len r]
theorem pB_len : ∀ (r : Runs) (b : Nat), (pB r b).length = r.length
  | [], _ => rfl
  | (_, _) :: r, _ => by simp [pB, pB_len r]
theorem take_snoc {α : Type} {r : List α} {i : Nat} {p : α} (h : r[i]? = some p) : r.take (i + 1) = r.take i ++ [p] := by
  rw [List.take_add_one, h]; rfl
theorem take_far {r : Runs} {e i : Nat} (v : Valid r e) : far (r.take i) ≤ far r := by
  induction r generalizing i with
  | nil => simp
  | cons p r ih =>
    obtain ⟨s, t⟩ := p
    cases i with
    | zero => simp [far]
    | succ i =>
      rw [List.take_succ_cons]
      simp only [far]
      have := ih (i := i) v.2.2.2.2
      omega
theorem sB_pos {r : Runs} {e : Nat} (v : Valid r e) : ∀ b, ∀ x ∈ sB r b, 0 < x := by
  induction r with
  | nil => intro b x hx; cases hx
  | cons p r ih =>
    obtain ⟨s, t⟩ := p
    intro b x hx
    have hs := fstep_pos_of_valid v
    rcases List.mem_cons.mp hx with rfl | hx
    · omega
    · exact ih v.2.2.2.2 _ x hx
/-- the tellers as the program gathers them -/
theorem tellers_eq {r : Runs} {e : Nat} (v : Valid r e) : tellers r e = (sB r 0 ++ if 0 < e then [far r + e] else []).filter fun x => !(bB r 0).contains x := by
  unfold tellers
  rw [starts_eq, barred_eq]
  by_cases he : 0 < e
  · rw [if_pos he]
    refine List.filter_congr fun x hx => ?_
    have : 0 < x := by
      rcases List.mem_append.mp hx with h | h
      · exact sB_pos v 0 x h
      · rw [List.mem_singleton.mp h]; omega
    rw [decide_eq_true this, Bool.true_and]
  · have h0 : r = [] := Classical.byContradiction fun z => he (end_pos v z)
    subst h0
    rw [if_neg he, show e = 0 by omega]
    rfl
theorem tellers_bd {R : Row} (h : Ok R) : (tellersR R).length ≤ 31 ∧ ∀ c ∈ tellersR R, c < 2 ^ 20 := by
  have h1 := h.len
  have h2 := h.far
  have h3 := h.en
  refine ⟨?_, fun c hc => ?_⟩
  · have := List.length_filter_le (fun x => decide (0 < x) && !((barred R.1).contains x)) (starts R.1 R.2)
    rw [starts_len] at this
    show (List.filter _ _).length ≤ 31
    omega
  · have := starts_le h.v c (List.mem_filter.mp hc).1
    omega
end Bfb
end
section
set_option Elab.async false
set_option linter.all false
set_option maxRecDepth 100000
namespace Bw
open PySem PySem.Spec PyProof.Rows L2 Bfb
local macro_rules | `(tactic| walk_at "ex") => `(tactic| first
  | assumption
  | exact Ex.refl _
  | (refine Ex.trans ?_ (by assumption); walk_at "ex"))
local macro_rules | `(tactic| walk_at "om") => `(tactic| first | omega | assumption | (left; constructor <;> omega) | (right; constructor <;> omega) | decide)
local macro_rules | `(tactic| walk_at "ln") => `(tactic| first | decide | (simp only [List.length_cons, List.length_nil, List.length_append, List.length_map]; omega))
local macro_rules | `(tactic| walk_at "rd") => `(tactic| first
  | with_reducible exact rd_plus
  | with_reducible exact rd_sub
  | with_reducible exact rd_lt
  | with_reducible exact rd_le
  | with_reducible exact rd_gt
  | with_reducible exact rd_ge
  | with_reducible exact rd_eqI
  | with_reducible exact rd_neI
  | ((with_reducible apply rd_eqD); rfl; rfl)
  | ((with_reducible apply rd_neD); rfl; rfl)
  | ((with_reducible apply rd_mul); walk_at "om")
  | ((with_reducible apply rd_div); walk_at "om"; walk_at "om")
  | ((with_reducible apply rd_mod); walk_at "om")
  | ((with_reducible apply rd_divW); walk_at "om"; walk_at "om")
  | ((with_reducible apply rd_ixT); rfl)
  | ((with_reducible apply rd_ixL); rfl)
  | with_reducible exact rd_isNi
  | with_reducible exact rd_isNn
  | with_reducible exact rd_isNt
  | with_reducible exact rd_notNn)
local macro_rules | `(tactic| walk_at "ev") => `(tactic| first
  | with_reducible exact evd_int
  | ((with_reducible apply evd_varI); rfl)
  | ((with_reducible apply evd_varB); rfl)
  | ((with_reducible apply evd_var); rfl; assumption; walk_at "ex")
  | with_reducible exact evd_bl
  | with_reducible exact evd_non
  | with_reducible exact evd_str
  | ((with_reducible apply evd_op); walk_at "ev"; walk_at "ev"; walk_at "rd")
  | ((with_reducible apply evd_tup); walk_at "ea"; walk_at "ln")
  | ((with_reducible apply evd_lst); walk_at "ea"; walk_at "ln")
  | ((with_reducible apply evd_isInt); walk_at "ev")
  | ((with_reducible apply evd_isBool); walk_at "ev")
  | ((with_reducible apply evd_isTuple); walk_at "ev")
  | ((with_reducible apply evd_cb); walk_at "ea"; walk_at "rc")
  | with_reducible exact evd_neg1
  | ((with_reducible apply evd_notV); walk_at "ev")
  | ((with_reducible apply evd_call); walk_at "ea"; assumption))
local macro_rules | `(tactic| walk_at "ea") => `(tactic| first
  | with_reducible exact evda_nil
  | ((with_reducible apply evda_cons); walk_at "ev"; walk_at "ea")
  | ((with_reducible apply evda_starT); walk_at "ev"; walk_at "ea")
  | ((with_reducible apply evda_starL); walk_at "ev"; walk_at "ea"))
local macro_rules | `(tactic| walk_at "rc") => `(tactic| first
  | with_reducible exact rc_len
  | with_reducible exact rc_lenT
  | with_reducible exact rc_tupL
  | with_reducible exact rc_tupT
  | with_reducible exact rc_listL
  | with_reducible exact rc_listT
  | with_reducible exact rc_min2
  | with_reducible exact rc_max2
  | with_reducible exact rc_int1
  | with_reducible exact rc_abs
  | with_reducible exact rc_all
  | with_reducible exact rc_sum)
local macro_rules | `(tactic| walk_at "et") => `(tactic| first
  | ((with_reducible apply et_test (K := ‹PySem.W.Frag›)); walk_at "ev")
  | ((with_reducible apply et_B (K := ‹PySem.W.Frag›)); walk_at "ev")
  | ((with_reducible apply et_not); walk_at "et"))

variable {P : Program} {w : World} {K : PySem.W.Frag} {mg : Str → Option Value} {base : Heap}
abbrev s_check_rows : Stmt := topS 21
abbrev N_check_rows : List Str := ["one", "other", "at", "value"]
theorem sc_check_rows : FnScope N_check_rows ["one", "other"] (defScope s_check_rows) := ⟨rfl, rfl, rfl, by decide +kernel, rfl, by decide +kernel, by decide +kernel⟩
abbrev s_together : Stmt := topS 22
abbrev N_together : List Str := ["one", "other"]
theorem sc_together : FnScope N_together ["one", "other"] (defScope s_together) := ⟨rfl, rfl, rfl, by decide +kernel, rfl, by decide +kernel, by decide +kernel⟩
abbrev s_behind : Stmt := topS 23
abbrev N_behind : List Str := ["row", "count", "left", "at", "step", "times"]
theorem sc_behind : FnScope N_behind ["row", "count"] (defScope s_behind) := ⟨rfl, rfl, rfl, by decide +kernel, rfl, by decide +kernel, by decide +kernel⟩
abbrev s_pieces_of : Stmt := topS 24
abbrev N_pieces_of : List Str := ["row", "found", "begin", "step", "times"]
theorem sc_pieces_of : FnScope N_pieces_of ["row"] (defScope s_pieces_of) := ⟨rfl, rfl, rfl, by decide +kernel, rfl, by decide +kernel, by decide +kernel⟩
theorem noI (l : List Nat) : noLs (l.map intN) = true := noLs_all fun d hd => by obtain ⟨p, _, rfl⟩ := List.mem_map.mp hd; rfl
theorem flat_ints (l : List Nat) : (l.map intN).all flatD = true := by
  rw [List.all_eq_true]
  intro x hx
  obtain ⟨n, _, rfl⟩ := List.mem_map.mp hx
  rfl
theorem any_ints (l : List Nat) (c : Nat) : PyData.bool (!((l.map intN).any fun z => PyData.eqv z (.int (c : Nat)))) = .bool (!l.contains c) := by
  congr 2
  induction l with
  | nil => rfl
  | cons a l ih =>
    rw [List.map_cons, List.any_cons, ih, List.contains_cons]
    congr 1
    show ((a : Int) == (c : Int)) = (c == a)
    rw [Bool.eq_iff_iff]
    simp
    omega
def R_tellers (ds : List PyData) (d : PyData) : Prop := ∃ R : Bfb.Row, Ok R ∧ ds = [rowD R] ∧ d = .tuple ((tellersR R).map intN)
theorem d_tellers (F : Fd K mg "tellers" s_tellers) (B : Nm mg) (D_checked_falling : Df P w K mg base "checked_falling" 5 ["value"] (spP K R_checked)) : Df P w K mg base "tellers" 6 ["falling"] (spP K R_tellers) := by
  refine d_pure F sc_tellers (fun _ _ _ _ _ _ us hl => match us, hl with | [_], _ => rfl) (by rintro _ _ ⟨R, hR, rfl, rfl⟩; rfl) fun f cdv A outer s H vs ds d Q E hr hds hR k => ?_
  have hu64 := hr.units
  have hu65 := room65 hr
  have hu1 := room1 hr
  obtain ⟨R, hR, rfl, rfl⟩ := hR
  obtain ⟨v0, rfl, h0⟩ := dpa1 hds
  obtain ⟨r, e⟩ := R
  refine ⟨_, (pss_cons (ps_asg (pe_df D_checked_falling (hr.mono (by decide)) (by rfl) (pa_cons (pv 0) pa_nil)) (pg_tupK (K := K) (n := 2) rfl rfl (pgs_cons (pg_name (i := 1) sc_tellers.nd rfl (.inl rfl)) (pgs_cons (pg_name (i := 2) sc_tellers.nd rfl (.inl rfl)) pgs_nil))))
      (pss_cons (ps_asg (pe_tup (pa_cons (pe_lst pa_nil) (pa_cons (pe_lst pa_nil) (pa_cons pe_int pa_nil)))) (pg_tupK (K := K) (n := 3) rfl rfl (pgs_cons (pg_name (i := 3) sc_tellers.nd rfl (.inl rfl)) (pgs_cons (pg_name (i := 4) sc_tellers.nd rfl (.inr rfl)) (pgs_cons (pg_name (i := 5) sc_tellers.nd rfl (.inl rfl)) pgs_nil)))))
      (pss_cons (ps_for PassesOwn.never rfl (pi_seqK (K := K) rfl (pv 1)) (pg_tupK (K := K) (n := 2) rfl rfl (pgs_cons (pg_name (i := 6) sc_tellers.nd rfl (.inl rfl)) (pgs_cons (pg_name (i := 7) sc_tellers.nd rfl (.inl rfl)) pgs_nil))) (pss_cons (ps_expr (pe_bm PySem.F.plainAttrs_list PySem.F.slot_list_append PySem.F.type_list_append mt_append (pv 3) (pa_cons (pe_op (op_plusK (K := K) rfl) (pv 5) (pv 6)) pa_nil)))
      (pss_cons (ps_set (i := 5) sc_tellers.nd rfl (.inl rfl) (pe_op (op_plusK (K := K) rfl) (pv 5) (pe_op op_mul (pv 6) (pv 7))))
      (pss_one (ps_expr (pe_bm PySem.F.plainAttrs_list PySem.F.slot_list_append PySem.F.type_list_append mt_append (pv 4) (pa_cons (pe_op (op_plusK (K := K) rfl) (pv 5) (pv 6)) pa_nil)))))))
      (pss_cons (ps_if (pt_cmpR op_gt (pv 2) pe_int (nomark _)) (pss_one (ps_expr (pe_bm PySem.F.plainAttrs_list PySem.F.slot_list_append PySem.F.type_list_append mt_append (pv 3) (pa_cons (pe_op (op_plusK (K := K) rfl) (pv 5) (pv 2)) pa_nil)))) pss_nil)
      (pss_one (ps_ret (pe_callTy call_tuple_of (by rfl) B.tuple (by decide +kernel) (pa_cons (pe_lc (own := [("count", 8)]) rfl sc_tellers.nd (pi_seqK (K := K) rfl (pv 3)) (blkOk_by (own := [("count", 8)]) (N := N_tellers) (sc := defScope s_tellers) (by decide +kernel)) (fun _ _ _ _ _ => (pg_name (i := 8) sc_tellers.nd rfl (.inl rfl))) (fun _ _ _ _ _ => pts_one (pt_cmpR (op_notInK (K := K) rfl) (pv 8) (pv 4) (by rfl))) (fun _ _ _ _ _ => (pv 8))) pa_nil)))))))), ?_⟩
  try dsimp only [cxOf, Cx.nox, Cx.wish]
  have hl : r.length ≤ 30 := hR.len
  have hf : far r < 65536 := hR.far
  refine q_asg K (d := .tuple [.tuple (r.map runD), .int (e : Nat)]) (evd_call (by walk_at "ea") ⟨(r, e), hR, rfl, rfl⟩) fun v H1 e1 dv => ?_
  refine g_two dv fun v1 v2 d1 d2 => ?_
  cases dp_int d2
  refine q_tup3NND K (d := .int 0) (by walk_at "ev") fun p q v5 H2 e2 pq np nq op oq d5 => ?_
  cases dp_int d5
  have qp : q ∉ [p] := fun z => pq (List.mem_singleton.mp z).symm
  have pq' : p ∉ [q] := fun z => pq (List.mem_singleton.mp z)
  have mp : ∀ a ∈ [p], a ∈ [p, q] := fun a h => by rw [List.mem_singleton.mp h]; exact List.mem_cons_self
  have mq : ∀ a ∈ [q], a ∈ [p, q] := fun a h => List.mem_cons_of_mem _ h
  have d1' : Dp K H2 v1 (.tuple (r.map runD)) := dp_ex e2 d1
  have nr : noL (.tuple (r.map runD)) = true := noLs_all fun d hd => by obtain ⟨p, _, rfl⟩ := List.mem_map.mp hd; rfl
  refine q_for K (b := false) (ds := r.map runD) (show EvD K _ _ _ (.tuple (r.map runD)) from by walk_at "ev") fun v H3 e3 dv => ⟨fun i σ' H' => ∃ (x6 x7 : Option V), σ' = [some v0, some v1, some (.int (e : Nat)), some (.ref p), some (.ref q), some (.int (far (r.take i) : Nat)), x6, x7, none] ∧ Bts [p, q] H3 H' ∧
      Own K H' p ((sB (r.take i) 0).map intN) ∧ Own K H' q ((bB (r.take i) 0).map intN), ⟨none, none, rfl, Bts.refl, op.mono e3, oq.mono e3⟩, fun i σ' H' ⟨_, _, _, b, o1, o2⟩ => dp_bts b (lsts2 (op.mono e3) (oq.mono e3)) nr dv, ?_, ?_⟩
  · rintro i d x σ' H' hi dx ⟨x6, x7, rfl, b, o1, o2⟩
    obtain ⟨⟨s, t⟩, hp, rfl⟩ : ∃ p, r[i]? = some p ∧ runD p = d := by
      rw [List.getElem?_map] at hi
      cases hp : r[i]? with
      | none => rw [hp] at hi; cases hi
      | some p => rw [hp] at hi; exact ⟨p, rfl, Option.some.inj hi⟩
    have ro := run_ok hR.v hp
    have hs : s < 65536 := Nat.lt_of_le_of_lt ro.sle hf
    have hil := (List.getElem?_eq_some_iff.mp hp).1
    have dx : Dp K H' x (.tuple [.int (s : Int), .int (t : Int)]) := dx
    refine g_two dx fun y z dy dz => ?_
    cases dp_int dy
    cases dp_int dz
    have lp : ((sB (r.take i) 0).map intN).length < 100000 := by rw [List.length_map, sB_len, List.length_take]; omega
    have lq : ((bB (r.take i) 0).map intN).length < 100000 := by rw [List.length_map, bB_len, List.length_take]; omega
    refine q_app K o1 rfl (noI _) (d := .int ((far (r.take i) : Nat) + (s : Nat) : Int)) rfl lp (by walk_at "ev") fun H4 b4 o4 => ?_
    refine q_set K (d := .int ((far (r.take i) : Nat) + (s : Nat) * (t : Nat) : Int)) (by walk_at "ev") fun v5 H5 e5 d5 => ?_
    cases dp_int d5
    have o2' : Own K H5 q _ := (Own.bts b4 (lsts1 o1) (noI _) qp o2).mono e5
    refine s_app K o2' rfl (noI _) (d := .int ((far (r.take i) : Nat) + (s : Nat) * (t : Nat) + (s : Nat) : Int)) rfl lq (by walk_at "ev") fun H6 b6 o6 => ?_
    refine ⟨some (.int (s : Nat)), some (.int (t : Nat)), ?_, b.trans ((b4.mono mp).trans ((Bts.of e5).trans (b6.mono mq))), ?_, ?_⟩
    · rw [take_snoc hp, far_snoc]
      rfl
    · have := Own.bts b6 (lsts1 o2') (noLs_app (noI _) rfl) pq' (o4.mono e5)
      rw [take_snoc hp, sB_snoc, List.map_append]
      simpa [intN] using this
    · rw [take_snoc hp, bB_snoc, List.map_append]
      simpa [intN] using o6
  · rintro σ' H' ⟨x6, x7, rfl, b, o1, o2⟩
    rw [List.length_map, List.take_length] at *
    have lp : ((sB r 0).map intN).length < 100000 := by rw [List.length_map, sB_len]; omega
    have fin : ∀ H4, Ex H H4 → ∀ L : List Nat, L.length ≤ 31 → Own K H4 p (L.map intN) → Own K H4 q ((bB r 0).map intN) → tellersR (r, e) = L.filter (fun x => !(bB r 0).contains x) → tRet (tCB
              (fun xs H Q =>
                ∃ p ys,
                  xs = [V.ref p] ∧
                    ((SqL K H p ys ∧ ∀ (l : Addr), H l = none → Q (V.ref l) (upd H l (HO.tup ys))) ∨
                      SqT K H p ys ∧ Q (V.ref p) H))
              (tCons
                (tLc (iSeq K (tVar 3)) (gName 8) (tTest (tOp (rIn K true) (tVar 8) (tVar 4))) (tVar 8)
                  (List.map (fun x => x.snd) [(Str.ofString "count", 8)]))
                tNil)) { nx := fun x H' => Q V.non H', rt := Q } [some v0, some v1, some (V.int ↑e), some (V.ref p), some (V.ref q), some (V.int ↑(far r)), x6, x7, none] H4 := fun H4 e4 L hL oL oq eL => by
      have dL := oL.dp
      have dq := oq.dp
      refine s_ret K (d := .tuple ((tellersR (r, e)).map intN)) (evd_cb (evda_cons (evd_lcI (b := true) intN L (fun x => !(bB r 0).contains x) intN (show EvD K _ _ _ (.list (L.map intN)) from by walk_at "ev") (by omega) (fun _ _ _ => rfl) fun c hc => ?_) evda_nil) (by rw [eL]; exact rc_tupL)) fun v H5 e5 dv => k v H5 (e4.trans e5) dv
      refine lct_name (fun v => rfl) fun v H1 e dv => ?_
      have dv : Dp K H1 v (.int (c : Nat)) := dv
      cases dp_int dv
      refine ⟨et_test (evd_is (evd_op (by walk_at "ev") (show EvD K _ _ _ (.list ((bB r 0).map intN)) from by walk_at "ev") (rd_inF (.inr rfl) rfl (flat_ints _))) ?_), fun _ => show EvD K _ _ _ (.int (c : Nat)) from by walk_at "ev"⟩
      rw [if_pos rfl, any_ints]
    refine q_when (b := decide (0 < e)) (et_is (a := decide ((0 : Int) < (e : Int))) (by walk_at "et") (by simp)) (fun he H4 e4 => ?_) (fun he H4 e4 => ?_)
    · have he : 0 < e := of_decide_eq_true he
      refine s_app K (o1.mono e4) rfl (noI _) (d := .int ((far r : Nat) + (e : Nat) : Int)) rfl lp (by walk_at "ev") fun H5 b5 o5 => ?_
      refine fin H5 (ex_bts2 ((e1.trans e2).trans e3) ((b.ex e4).trans (b5.mono mp)) (fresh_ex e1 np) (fresh_ex e1 nq)) (sB r 0 ++ [far r + e]) (by rw [List.length_append, sB_len]; exact Nat.add_le_add hl (Nat.le_refl _)) (by rw [List.map_append]; simpa [intN] using o5) (Own.bts b5 (lsts1 (o1.mono e4)) (noI _) qp (o2.mono e4)) ?_
      show tellers r e = _
      rw [tellers_eq hR.v, if_pos he]
    · have he : ¬ 0 < e := of_decide_eq_false he
      refine fin H4 (ex_bts2 ((e1.trans e2).trans e3) (b.ex e4) (fresh_ex e1 np) (fresh_ex e1 nq)) (sB r 0) (by rw [sB_len]; omega) (o1.mono e4) (o2.mono e4) ?_
      show tellers r e = _
      rw [tellers_eq hR.v, if_neg he, List.append_nil]
def R_rows (ds : List PyData) (d : PyData) : Prop := ∃ X Y : Bfb.Row, Ok X ∧ Ok Y ∧ ds = [rowD X, rowD Y] ∧ d = .none
theorem d_check_rows (F : Fd K mg "check_rows" s_check_rows) (B : Nm mg) (D_is_falling : Df P w K mg base "is_falling" 4 ["value"] (spP K R_falling)) : Df P w K mg base "check_rows" 5 ["one", "other"] (spP K R_rows) := by
  refine d_pure F sc_check_rows (fun _ _ _ _ _ _ us hl => match us, hl with | [_, _], _ => rfl) (by rintro _ _ ⟨X, Y, hX, hY, rfl, rfl⟩; rfl) fun f cdv A outer s H vs ds d Q E hr hds hR k => ?_
  have hu64 := hr.units
  have hu65 := room65 hr
  have hu1 := room1 hr
  obtain ⟨X, Y, hX, hY, rfl, rfl⟩ := hR
  obtain ⟨v0, v1, rfl, h0, h1⟩ := dpa2 hds
  refine ⟨_, (pss_one (ps_for PassesOwn.never rfl (pi_enumTK (K := K) rfl (by rfl) B.enumerate (pa_cons (pe_tup (pa_cons (pv 0) (pa_cons (pv 1) pa_nil))) pa_nil)) (pg_tupK (K := K) (n := 2) rfl rfl (pgs_cons (pg_name (i := 2) sc_check_rows.nd rfl (.inl rfl)) (pgs_cons (pg_name (i := 3) sc_check_rows.nd rfl (.inl rfl)) pgs_nil))) (pss_one (ps_if (pt_not (pt_val (pe_df D_is_falling (hr.mono (by decide)) (by rfl) (pa_cons (pv 3) pa_nil)))) (pss_one ps_never) pss_nil)))), ?_⟩
  try dsimp only [cxOf, Cx.nox, Cx.wish]
  refine s_forE K (ds := [rowD X, rowD Y]) (by walk_at "ev") fun v H1 e1 dv => ⟨fun i σ' H' => (∃ x2 x3, σ' = [some v0, some v1, x2, x3]) ∧ Ex H1 H', ⟨⟨none, none, rfl⟩, Ex.refl _⟩, fun i σ' H' ⟨_, e⟩ => dp_ex e dv, ?_, fun σ' H' ⟨_, e⟩ => k _ _ (e1.trans e) .non⟩
  rintro i d x σ' H' H2 hi ⟨⟨x2, x3, rfl⟩, e⟩ e2 dx
  refine g_two dx fun y z dy dz => ?_
  cases dp_int dy
  obtain ⟨Z, hZ, rfl⟩ : ∃ Z, Ok Z ∧ d = rowD Z := by
    match i, hi with
    | 0, hi => exact ⟨X, hX, (Option.some.inj hi).symm⟩
    | 1, hi => exact ⟨Y, hY, (Option.some.inj hi).symm⟩
  refine s_when (b := false) (et_is (et_not (et_B (evd_call (by walk_at "ea") ⟨Z, hZ, rfl, rfl⟩))) rfl) (fun z => nomatch z) fun _ H3 e3 => ⟨⟨_, _, rfl⟩, e.trans (e2.trans e3)⟩
def R_together (ds : List PyData) (d : PyData) : Prop := ∃ X Y : Bfb.Row, Ok X ∧ Ok Y ∧ ds = [rowD X, rowD Y] ∧ d = rowD (togR X Y)
theorem d_together (F : Fd K mg "together" s_together) (B : Nm mg) (D_check_rows : Df P w K mg base "check_rows" 5 ["one", "other"] (spP K R_rows)) (D_closing : Df P w K mg base "closing" 4 ["counts"] (spP K R_closing)) (D_tellers : Df P w K mg base "tellers" 6 ["falling"] (spP K R_tellers)) : Df P w K mg base "together" 7 ["one", "other"] (spP K R_together) := by
  refine d_pure F sc_together (fun _ _ _ _ _ _ us hl => match us, hl with | [_, _], _ => rfl) (by rintro _ _ ⟨X, Y, hX, hY, rfl, rfl⟩; rfl) fun f cdv A outer s H vs ds d Q E hr hds hR k => ?_
  have hu64 := hr.units
  have hu65 := room65 hr
  have hu1 := room1 hr
  obtain ⟨X, Y, hX, hY, rfl, rfl⟩ := hR
  obtain ⟨v0, v1, rfl, h0, h1⟩ := dpa2 hds
  refine ⟨_, (pss_cons (ps_expr (pe_df D_check_rows (hr.mono (by decide)) (by rfl) (pa_cons (pv 0) (pa_cons (pv 1) pa_nil))))
      (pss_one (ps_ret (pe_df D_closing (hr.mono (by decide)) (by rfl) (pa_cons (pe_tup (pa_starK (K := K) rfl (pe_df D_tellers (hr.mono (by decide)) (by rfl) (pa_cons (pv 0) pa_nil)) (pa_starK (K := K) rfl (pe_df D_tellers (hr.mono (by decide)) (by rfl) (pa_cons (pv 1) pa_nil)) pa_nil))) pa_nil))))), ?_⟩
  try dsimp only [cxOf, Cx.nox, Cx.wish]
  have t1 := tellers_bd hX
  have t2 := tellers_bd hY
  refine q_drop K (d := .none) (evd_call (by walk_at "ea") ⟨X, Y, hX, hY, rfl, rfl⟩) fun H1 e1 => ?_
  refine s_ret K (d := rowD (togR X Y)) (evd_call (ds := [.tuple ((tellersR X ++ tellersR Y).map intN)]) (evda_cons (evd_is (d := .tuple ((tellersR X).map intN ++ ((tellersR Y).map intN ++ []))) (evd_tup (evda_starT (evd_call (by walk_at "ea") ⟨X, hX, rfl, rfl⟩) (evda_starT (evd_call (by walk_at "ea") ⟨Y, hY, rfl, rfl⟩) evda_nil)) ?_) ?_) evda_nil) ⟨false, _, ?_, fun c hc => ?_, rfl, by rw [togR_tellers hX.v hY.v]⟩) fun v H2 e2 dv => k v H2 (e1.trans e2) dv
  · simp only [List.length_append, List.length_map, List.length_nil]
    omega
  · rw [List.append_nil, List.map_append]
  · rw [List.length_append]; omega
  · rcases List.mem_append.mp hc with h | h
    · have := t1.2 c h; omega
    · have := t2.2 c h; omega
def R_behind (ds : List PyData) (d : PyData) : Prop := ∃ (R : Bfb.Row) (c : Nat), Ok R ∧ ds = [rowD R, .int c] ∧ d = rowD (behindR R.1 c, R.2)
theorem d_behind (F : Fd K mg "behind" s_behind) (B : Nm mg) : Df P w K mg base "behind" 1 ["row", "count"] (spP K R_behind) := by
  refine d_pure F sc_behind (fun _ _ _ _ _ _ us hl => match us, hl with | [_, _], _ => rfl) (by rintro _ _ ⟨R, c, hR, rfl, rfl⟩; rfl) fun f cdv A outer s H vs ds d Q E hr hds hR k => ?_
  have hu64 := hr.units
  have hu65 := room65 hr
  have hu1 := room1 hr
  obtain ⟨R, c, hR, rfl, rfl⟩ := hR
  obtain ⟨v0, v1, rfl, h0, h1⟩ := dpa2 hds
  cases dp_int h1
  refine ⟨_, (pss_cons (ps_set (i := 2) sc_behind.nd rfl (.inl rfl) (pv 1))
      (pss_cons (ps_for PassesOwn.never rfl (pi_enumTK (K := K) rfl (by rfl) B.enumerate (pa_cons (pe_ix (ix_K (K := K) rfl) (pv 0) pe_int (fun _ _ => rfl)) pa_nil)) (pg_tupK (K := K) (n := 2) rfl rfl (pgs_cons (pg_name (i := 3) sc_behind.nd rfl (.inl rfl)) (pgs_cons (pg_tupK (K := K) (n := 2) rfl rfl (pgs_cons (pg_name (i := 4) sc_behind.nd rfl (.inl rfl)) (pgs_cons (pg_name (i := 5) sc_behind.nd rfl (.inl rfl)) pgs_nil))) pgs_nil))) (pss_cons (ps_if (pt_cmpR op_lt (pv 2) (pe_op op_mul (pv 4) (pv 5)) (nomark _)) (pss_one (ps_ret (pe_tup (pa_cons (pe_tup (pa_cons (pe_tup (pa_cons (pv 4) (pa_cons (pe_op op_sub (pv 5) (pe_op op_fdivN (pv 2) (pv 4))) pa_nil))) (pa_starK (K := K) rfl (pe_slice (sl_K (K := K) rfl) (pe_ix (ix_K (K := K) rfl) (pv 0) pe_int (fun _ _ => rfl)) (po_some (pe_op (op_plusK (K := K) rfl) (pv 3) pe_int)) po_none) pa_nil))) (pa_cons (pe_ix (ix_K (K := K) rfl) (pv 0) pe_int (fun _ _ => rfl)) pa_nil))))) pss_nil)
      (pss_one (ps_set (i := 2) sc_behind.nd rfl (.inl rfl) (pe_op op_sub (pv 2) (pe_op op_mul (pv 4) (pv 5)))))))
      (pss_one (ps_ret (pe_tup (pa_cons (pe_tup pa_nil) (pa_cons (pe_ix (ix_K (K := K) rfl) (pv 0) pe_int (fun _ _ => rfl)) pa_nil))))))), ?_⟩
  try dsimp only [cxOf, Cx.nox, Cx.wish]
  obtain ⟨r, e⟩ := R
  have hf : far r < 65536 := hR.far
  have hlen : r.length ≤ 30 := hR.len
  have h0 : Dp K H v0 (.tuple [.tuple (r.map runD), .int (e : Nat)]) := h0
  refine q_set K (d := .int (c : Nat)) (by walk_at "ev") fun v2 H1 e1 d2 => ?_
  cases dp_int d2
  refine q_forE K (ds := r.map runD) (by walk_at "ev") fun v H2 e2 dv => ⟨fun i σ' H' => ∃ (l : Nat) (x3 x4 x5 : Option V), σ' = [some v0, some (.int (c : Nat)), some (.int (l : Nat)), x3, x4, x5] ∧ Ex H2 H' ∧ behindR r c = behindR (r.drop i) l, ⟨c, none, none, none, rfl, Ex.refl _, rfl⟩, fun i σ' H' ⟨_, _, _, _, _, q, _⟩ => dp_ex q dv, ?_, ?_⟩
  · rintro i d x σ' H' H3 hi ⟨l, x3, x4, x5, rfl, e3, hw⟩ e4 dx
    obtain ⟨⟨s, t⟩, hp, rfl⟩ : ∃ p, r[i]? = some p ∧ runD p = d := by
      rw [List.getElem?_map] at hi
      cases hp : r[i]? with
      | none => rw [hp] at hi; cases hi
      | some p => rw [hp] at hi; exact ⟨p, rfl, Option.some.inj hi⟩
    have ro := run_ok hR.v hp
    have hs : s < 65536 := Nat.lt_of_le_of_lt ro.sle hf
    have hs0 := ro.s0
    have hil := (List.getElem?_eq_some_iff.mp hp).1
    rw [drop_cons hp, behindR_c] at hw
    refine g_pair (e := .int (s : Nat)) (f := .int (t : Nat)) dx fun x y z dx dy dz => ?_
    cases dp_int dx
    cases dp_int dy
    cases dp_int dz
    refine q_when (b := decide ((l : Int) < (s : Int) * (t : Int))) (by walk_at "et") (fun hlt H4 e5 => ?_) (fun hlt H4 e5 => ?_)
    · have hlt : l < s * t := by have := of_decide_eq_true hlt; rw [← Int.natCast_mul] at this; omega
      rw [if_pos hlt] at hw
      have hdiv : l / s < t := Nat.div_lt_of_lt_mul hlt
      have cu : cutD (r.map runD) (some ((i : Int) + 1)) none = (r.drop (i + 1)).map runD := by
        rw [show ((i : Int) + 1) = ((i + 1 : Nat) : Int) by omega, cut_from _ _ (by rw [List.length_map]; omega), List.map_drop]
      refine s_ret K (d := rowD (behindR r c, e)) (evd_is (d := .tuple [.tuple (.tuple [.int (s : Nat), .int ((t : Int) - (l : Int).fdiv (s : Int))] :: (cutD (r.map runD) (some ((i : Int) + 1)) none ++ [])), .int (e : Nat)]) (evd_tup (evda_cons (evd_tup (evda_cons (by walk_at "ev") (evda_starT (evd_slT (ds := r.map runD) (by walk_at "ev") (eo_some (K := K) (by walk_at "ev")) eo_none) evda_nil)) ?_) (evda_cons (by walk_at "ev") evda_nil)) (by walk_at "ln")) ?_) fun v H5 e6 dv => k v H5 (by walk_at "ex") dv
      · rw [cu]
        simp only [List.length_cons, List.length_append, List.length_map, List.length_nil, List.length_drop]
        omega
      · rw [cu, List.append_nil, hw, fdivN]
        show PyData.tuple [.tuple (.tuple [.int s, .int ((t : Int) - ((l / s : Nat) : Int))] :: _), _] = .tuple [.tuple (.tuple [.int s, .int ((t - l / s : Nat) : Int)] :: _), _]
        rw [Int.ofNat_sub (Nat.le_of_lt hdiv)]
    · have hlt : ¬ l < s * t := by have := of_decide_eq_false hlt; rw [← Int.natCast_mul] at this; omega
      rw [if_neg hlt] at hw
      refine s_set K (d := .int ((l - s * t : Nat) : Int)) (evd_is (d := .int ((l : Int) - (s : Int) * (t : Int))) (by walk_at "ev") ?_) fun v H4 e6 dv => ?_
      · congr 1; rw [← Int.natCast_mul]; omega
      · cases dp_int dv
        exact ⟨l - s * t, some (.int (i : Nat)), some (.int (s : Nat)), some (.int (t : Nat)), rfl, by walk_at "ex", hw⟩
  · rintro σ' H' ⟨l, x3, x4, x5, rfl, e3, hw⟩
    rw [List.length_map, List.drop_length] at hw
    refine s_ret K (d := rowD (behindR r c, e)) (evd_is (d := .tuple [.tuple [], .int (e : Nat)]) (by walk_at "ev") (by rw [hw]; rfl)) fun v H5 e6 dv => k v H5 (by walk_at "ex") dv
def optD : Option Nat → PyData
  | some n => .int (n : Nat)
  | none => .none
def pieceD (p : Piece) : PyData := .tuple [.int p.1, .int p.2.1, optD p.2.2]
def R_pieces (ds : List PyData) (d : PyData) : Prop := ∃ R : Bfb.Row, Ok R ∧ ds = [rowD R] ∧ d = .list ((pieces R.1 R.2 0).map pieceD)
theorem d_pieces_of (F : Fd K mg "pieces_of" s_pieces_of) (B : Nm mg) : Df P w K mg base "pieces_of" 1 ["row"] (spP K R_pieces) := by
  refine d_pure F sc_pieces_of (fun _ _ _ _ _ _ us hl => match us, hl with | [_], _ => rfl) (by rintro _ _ ⟨R, hR, rfl, rfl⟩; rfl) fun f cdv A outer s H vs ds d Q E hr hds hR k => ?_
  have hu64 := hr.units
  have hu65 := room65 hr
  have hu1 := room1 hr
  obtain ⟨R, hR, rfl, rfl⟩ := hR
  obtain ⟨v0, rfl, h0⟩ := dpa1 hds
  refine ⟨_, (pss_cons (ps_par (i := 1) (j := 2) (by rfl) sc_pieces_of.nd rfl rfl (by decide) rfl rfl (pa_cons (pe_lst pa_nil) (pa_cons pe_int pa_nil)) (by rfl))
      (pss_cons (ps_for PassesOwn.never rfl (pi_seqK (K := K) rfl (pe_ix (ix_K (K := K) rfl) (pv 0) pe_int (fun _ _ => rfl))) (pg_tupK (K := K) (n := 2) rfl rfl (pgs_cons (pg_name (i := 3) sc_pieces_of.nd rfl (.inl rfl)) (pgs_cons (pg_name (i := 4) sc_pieces_of.nd rfl (.inl rfl)) pgs_nil))) (pss_cons (ps_expr (pe_bm PySem.F.plainAttrs_list PySem.F.slot_list_append PySem.F.type_list_append mt_append (pv 1) (pa_cons (pe_tup (pa_cons (pv 2) (pa_cons (pv 3) (pa_cons (pe_op (op_plusK (K := K) rfl) (pv 2) (pe_op op_mul (pv 3) (pv 4))) pa_nil)))) pa_nil)))
      (pss_one (ps_set (i := 2) sc_pieces_of.nd rfl (.inl rfl) (pe_op (op_plusK (K := K) rfl) (pv 2) (pe_op op_mul (pv 3) (pv 4)))))))
      (pss_one (ps_ret (pe_lst (pa_starK (K := K) rfl (pv 1) (pa_cons (pe_tup (pa_cons (pv 2) (pa_cons (pe_ix (ix_K (K := K) rfl) (pv 0) pe_int (fun _ _ => rfl)) (pa_cons pe_non pa_nil)))) pa_nil))))))), ?_⟩
  try dsimp only [cxOf, Cx.nox, Cx.wish]
  obtain ⟨r, e⟩ := R
  have hf : far r < 65536 := hR.far
  have hlen : r.length ≤ 30 := hR.len
  have h0 : Dp K H v0 (.tuple [.tuple (r.map runD), .int (e : Nat)]) := h0
  refine q_parND K (d := .int 0) (by walk_at "ev") fun p v2 H1 e1 np op d2 => ?_
  cases dp_int d2
  have noP : ∀ l : List Piece, noLs (l.map pieceD) = true := fun l => noLs_all fun d hd => by
    obtain ⟨⟨a, b, c⟩, _, rfl⟩ := List.mem_map.mp hd
    cases c <;> rfl
  have nr : noL (.tuple (r.map runD)) = true := noLs_all fun d hd => by obtain ⟨p, _, rfl⟩ := List.mem_map.mp hd; rfl
  have nR : noL (.tuple [.tuple (r.map runD), .int (e : Nat)]) = true := by
    show (noL (.tuple (r.map runD)) && (true && true)) = true
    rw [nr]; rfl
  refine q_for K (b := false) (ds := r.map runD) (show EvD K _ _ _ (.tuple (r.map runD)) from by walk_at "ev") fun v H2 e2 dv => ⟨fun i σ' H' => ∃ (x3 x4 : Option V), σ' = [some v0, some (.ref p), some (.int (far (r.take i) : Nat)), x3, x4] ∧ Bts [p] H2 H' ∧
      Own K H' p ((pB (r.take i) 0).map pieceD), ⟨none, none, rfl, Bts.refl, op.mono e2⟩, fun i σ' H' ⟨_, _, _, b, o⟩ => dp_bts b (lsts1 (op.mono e2)) nr dv, ?_, ?_⟩
  · rintro i d x σ' H' hi dx ⟨x3, x4, rfl, b, o⟩
    obtain ⟨⟨s, t⟩, hp, rfl⟩ : ∃ p, r[i]? = some p ∧ runD p = d := by
      rw [List.getElem?_map] at hi
      cases hp : r[i]? with
      | none => rw [hp] at hi; cases hi
      | some p => rw [hp] at hi; exact ⟨p, rfl, Option.some.inj hi⟩
    have ro := run_ok hR.v hp
    have hs : s < 65536 := Nat.lt_of_le_of_lt ro.sle hf
    have dx : Dp K H' x (.tuple [.int (s : Int), .int (t : Int)]) := dx
    refine g_two dx fun y z dy dz => ?_
    cases dp_int dy
    cases dp_int dz
    have lp : ((pB (r.take i) 0).map pieceD).length < 100000 := by rw [List.length_map, pB_len, List.length_take]; omega
    refine q_app K o rfl (noP _) (d := pieceD (far (r.take i), s, some (far (r.take i) + s * t))) rfl lp (evd_is (d := .tuple [.int (far (r.take i) : Nat), .int (s : Nat), .int ((far (r.take i) : Nat) + (s : Nat) * (t : Nat) : Int)]) (by walk_at "ev") rfl) fun H3 b3 o3 => ?_
    refine s_set K (d := .int ((far (r.take i) : Nat) + (s : Nat) * (t : Nat) : Int)) (by walk_at "ev") fun v2 H4 e4 d4 => ?_
    cases dp_int d4
    refine ⟨some (.int (s : Nat)), some (.int (t : Nat)), ?_, b.trans (b3.ex e4), ?_⟩
    · rw [take_snoc hp, far_snoc]
      rfl
    · rw [take_snoc hp, pB_snoc, List.map_append]
      simpa using o3.mono e4
  · rintro σ' H' ⟨x3, x4, rfl, b, o⟩
    rw [List.length_map, List.take_length] at *
    have dp := o.dp
    have h0' : Dp K H' v0 (.tuple [.tuple (r.map runD), .int (e : Nat)]) := dp_ex (ex_bts (e1.trans e2) b np) h0
    refine s_ret K (d := .list ((pieces r e 0).map pieceD)) (evd_is (d := .list ((pB r 0).map pieceD ++ [.tuple [.int (far r : Nat), .int (e : Nat), .none]])) (evd_lst (evda_starL (by walk_at "ev") (by walk_at "ea")) ?_) ?_) fun v H5 e6 dv => k v H5 ((ex_bts (e1.trans e2) b np).trans e6) dv
    · simp only [List.length_append, List.length_map, pB_len, List.length_cons, List.length_nil]
      omega
    · rw [pieces_pB, List.map_append, Nat.zero_add]
      rfl
end Bw
end
section
namespace Bfb
/-! the search for the least common number: what the program reckons -/
theorem meet_prog {b s o j : Nat} (hs : 0 < s) (hj : 0 < j) {last times inv : Int} (hd : ((o : Int) - b) % (Nat.gcd s j : Nat) = 0)
    (h : Euc (((s : Int) / (Nat.gcd s j : Nat)) % ((j : Int) / (Nat.gcd s j : Nat))) ((j : Int) / (Nat.gcd s j : Nat)) 0 last times inv) :
    ∃ x : Nat, ((b : Int) + s * (((o : Int) - b) / (Nat.gcd s j : Nat) * inv % ((j : Int) / (Nat.gcd s j : Nat))) + ((max (b : Int) o - ((b : Int) + s * (((o : Int) - b) / (Nat.gcd s j : Nat) * inv % ((j : Int) / (Nat.gcd s j : Nat))))) / (Nat.lcm s j : Nat) + 1) * (Nat.lcm s j : Nat)) = x ∧ Meet b s o j x := by
  have hg : 0 < Nat.gcd s j := Nat.gcd_pos_of_pos_left j hs
  generalize hw : Nat.gcd s j = w at *
  have d1 : w ∣ s := hw ▸ Nat.gcd_dvd_left s j
  have d2 : w ∣ j := hw ▸ Nat.gcd_dvd_right s j
  obtain ⟨A, hA⟩ := d1
  obtain ⟨M, hM⟩ := d2
  have hA1 : (s : Int) / (w : Nat) = A := by rw [hA, Int.natCast_mul]; exact Int.mul_ediv_cancel_left _ (by omega)
  have hM1 : (j : Int) / (w : Nat) = M := by rw [hM, Int.natCast_mul]; exact Int.mul_ediv_cancel_left _ (by omega)
  have hMp : 0 < M := by
    rcases M with _ | M
    · rw [Nat.mul_zero] at hM; omega
    · exact Nat.succ_pos _
  rw [hA1, hM1] at h
  rw [hM1]
  have cop : Nat.gcd A M = 1 := by
    have : Nat.gcd (w * A) (w * M) = w * Nat.gcd A M := Nat.gcd_mul_left w A M
    rw [← hA, ← hM, hw] at this
    have h2 : w * 1 = w * Nat.gcd A M := by omega
    exact (Nat.eq_of_mul_eq_mul_left hg h2).symm
  have hinv : (M : Int) ∣ inv * ((s : Int) / (w : Nat)) - 1 := by
    have e := euc_end h fun d h1 h2 => by
      have h3 : d ∣ (A : Int) := by
        have := Int.mul_ediv_add_emod (A : Int) (M : Int)
        rw [← this]
        exact Int.dvd_add (Int.dvd_trans h2 ⟨_, rfl⟩) h1
      have := Int.dvd_coe_gcd h3 h2
      rw [Int.gcd_natCast_natCast, cop] at this
      exact this
    rw [hA1]
    obtain ⟨q, hq⟩ := e
    have := Int.mul_ediv_add_emod (A : Int) (M : Int)
    refine ⟨q + inv * ((A : Int) / M), ?_⟩
    have e2 : inv * (A : Int) = inv * (M * ((A : Int) / M)) + inv * ((A : Int) % M) := by rw [← Int.mul_add, this]
    rw [Int.mul_add, ← hq, e2]
    have : inv * ((M : Int) * ((A : Int) / M)) = M * (inv * ((A : Int) / M)) := Int.mul_left_comm _ _ _
    omega
  have m := meet_some (b := (b : Int)) (s := (s : Int)) (o := (o : Int)) (j := (j : Int)) (w := (w : Int)) (M := (M : Int)) (m := (Nat.lcm s j : Nat)) (inv := inv)
    (y := (b : Int) + s * (((o : Int) - b) / (w : Nat) * inv % M)) (by omega) (by omega) (by rw [hA1, hA, Int.natCast_mul]) (by rw [hM, Int.natCast_mul]) (Int.dvd_of_emod_eq_zero hd) hinv rfl
    (by have := Nat.lcm_pos hs hj; omega) (Int.natCast_dvd_natCast.mpr (Nat.dvd_lcm_left s j)) (Int.natCast_dvd_natCast.mpr (Nat.dvd_lcm_right s j)) (fun d h1 h2 => by
      have k1 := Int.ofNat_dvd_left.mp h1
      have k2 := Int.ofNat_dvd_left.mp h2
      exact Int.ofNat_dvd_left.mpr (Nat.lcm_dvd k1 k2))
  have hpos := m.above
  obtain ⟨x, hx⟩ := Int.eq_ofNat_of_zero_le (a := (b : Int) + s * (((o : Int) - b) / (w : Nat) * inv % M) + ((max (b : Int) o - ((b : Int) + s * (((o : Int) - b) / (w : Nat) * inv % M))) / (Nat.lcm s j : Nat) + 1) * (Nat.lcm s j : Nat)) (by omega)
  exact ⟨x, hx, by rw [← hx]; exact m⟩
/-- bounds of the pieces -/
theorem pieces_bd : ∀ {r : Runs} {e b : Nat}, ∀ p ∈ pieces r e b, Valid r e → p.1 ≤ b + far r ∧ p.2.1 ≤ far r + e
  | [], e, b, p, hp, _ => by
    rw [List.mem_singleton.mp hp]
    exact ⟨Nat.le_add_right _ _, Nat.le_add_left _ _⟩
  | (s, t) :: r, e, b, p, hp, v => by
    have := Nat.le_mul_of_pos_right s v.1
    rcases List.mem_cons.mp hp with rfl | hp
    · simp only [far]
      omega
    · have := pieces_bd p hp v.2.2.2.2
      simp only [far]
      omega
/-- there are common members as far out as one likes -/
theorem common_far {X Y : Row} (vx : VR X) (vy : VR Y) (px : 0 < X.2) (py : 0 < Y.2) (n : Nat) : ∃ m, n < m ∧ InR X m ∧ InR Y m := by
  have hL := Nat.lcm_pos px py
  refine ⟨Nat.lcm X.2 Y.2 * (n + far X.1 + far Y.1 + 1), ?_, ?_, ?_⟩
  · have := Nat.le_mul_of_pos_left (n + far X.1 + far Y.1 + 1) hL
    omega
  · refine (far_all vx _ ?_).mpr ?_
    · have := Nat.le_mul_of_pos_left (n + far X.1 + far Y.1 + 1) hL
      omega
    · exact Nat.mod_eq_zero_of_dvd (Nat.dvd_trans (Nat.dvd_lcm_left _ _) ⟨_, rfl⟩)
  · refine (far_all vy _ ?_).mpr ?_
    · have := Nat.le_mul_of_pos_left (n + far X.1 + far Y.1 + 1) hL
      omega
    · exact Nat.mod_eq_zero_of_dvd (Nat.dvd_trans (Nat.dvd_lcm_right _ _) ⟨_, rfl⟩)
theorem nsteps_far : ∀ {r : Runs} {e : Nat}, Valid r e → 2 * nsteps r ≤ far r
  | [], _, _ => Nat.le_refl _
  | (s, t) :: r, e, v => by
    have := nsteps_far v.2.2.2.2
    have h1 := v.2.1
    have h2 := v.2.2.1
    have : 2 * t ≤ s * t := Nat.mul_le_mul_right t (by omega)
    simp only [nsteps, far]
    omega
theorem behind_ok {R : Row} {c : Nat} (h : Ok R) (hc : within R.1 R.2 c = true) : Ok (behindR R.1 c, R.2) :=
  ⟨(behindR_ok h.v hc).1, Nat.lt_of_le_of_lt (behindR_far h.v) h.far, h.en⟩
end Bfb
end
section
set_option Elab.async false
set_option linter.all false
set_option maxRecDepth 100000
namespace Bw
open PySem PySem.Spec PyProof.Rows L2 Bfb
local macro_rules | `(tactic| walk_at "ex") => `(tactic| first
  | assumption
  | exact Ex.refl _
  | (refine Ex.trans ?_ (by assumption); walk_at "ex"))
local macro_rules | `(tactic| walk_at "om") => `(tactic| first | omega | assumption | (left; constructor <;> omega) | (right; constructor <;> omega) | decide)
local macro_rules | `(tactic| walk_at "ln") => `(tactic| first | decide | (simp only [List.length_cons, List.length_nil, List.length_append, List.length_map]; omega))
local macro_rules | `(tactic| walk_at "rd") => `(tactic| first
  | with_reducible exact rd_plus
  | with_reducible exact rd_sub
  | with_reducible exact rd_lt
  | with_reducible exact rd_le
  | with_reducible exact rd_gt
  | with_reducible exact rd_ge
  | with_reducible exact rd_eqI
  | with_reducible exact rd_neI
  | ((with_reducible apply rd_eqD); rfl; rfl)
  | ((with_reducible apply rd_neD); rfl; rfl)
  | ((with_reducible apply rd_mul); walk_at "om")
  | ((with_reducible apply rd_div); walk_at "om"; walk_at "om")
  | ((with_reducible apply rd_mod); walk_at "om")
  | ((with_reducible apply rd_divW); walk_at "om"; walk_at "om")
  | ((with_reducible apply rd_ixT); rfl)
  | ((with_reducible apply rd_ixL); rfl)
  | with_reducible exact rd_isNi
  | with_reducible exact rd_isNn
  | with_reducible exact rd_isNt
  | with_reducible exact rd_notNn)
local macro_rules | `(tactic| walk_at "ev") => `(tactic| first
  | with_reducible exact evd_int
  | ((with_reducible apply evd_varI); rfl)
  | ((with_reducible apply evd_varB); rfl)
  | ((with_reducible apply evd_var); rfl; assumption; walk_at "ex")
  | with_reducible exact evd_bl
  | with_reducible exact evd_non
  | with_reducible exact evd_str
  | ((with_reducible apply evd_op); walk_at "ev"; walk_at "ev"; walk_at "rd")
  | ((with_reducible apply evd_tup); walk_at "ea"; walk_at "ln")
  | ((with_reducible apply evd_lst); walk_at "ea"; walk_at "ln")
  | ((with_reducible apply evd_isInt); walk_at "ev")
  | ((with_reducible apply evd_isBool); walk_at "ev")
  | ((with_reducible apply evd_isTuple); walk_at "ev")
  | ((with_reducible apply evd_cb); walk_at "ea"; walk_at "rc")
  | with_reducible exact evd_neg1
  | ((with_reducible apply evd_notV); walk_at "ev")
  | ((with_reducible apply evd_call); walk_at "ea"; assumption))
local macro_rules | `(tactic| walk_at "ea") => `(tactic| first
  | with_reducible exact evda_nil
  | ((with_reducible apply evda_cons); walk_at "ev"; walk_at "ea")
  | ((with_reducible apply evda_starT); walk_at "ev"; walk_at "ea")
  | ((with_reducible apply evda_starL); walk_at "ev"; walk_at "ea"))
local macro_rules | `(tactic| walk_at "rc") => `(tactic| first
  | with_reducible exact rc_len
  | with_reducible exact rc_lenT
  | with_reducible exact rc_tupL
  | with_reducible exact rc_tupT
  | with_reducible exact rc_listL
  | with_reducible exact rc_listT
  | with_reducible exact rc_min2
  | with_reducible exact rc_max2
  | with_reducible exact rc_int1
  | with_reducible exact rc_abs
  | with_reducible exact rc_all
  | with_reducible exact rc_sum)
local macro_rules | `(tactic| walk_at "et") => `(tactic| first
  | ((with_reducible apply et_test (K := ‹PySem.W.Frag›)); walk_at "ev")
  | ((with_reducible apply et_B (K := ‹PySem.W.Frag›)); walk_at "ev")
  | ((with_reducible apply et_not); walk_at "et"))

variable {P : Program} {w : World} {K : PySem.W.Frag} {mg : Str → Option Value} {base : Heap}
abbrev s_meeting : Stmt := topS 25
abbrev N_meeting : List Str := ["begin", "step", "other", "jump", "whole", "rest", "last", "times", "others", "turns", "found", "multiple"]
theorem sc_meeting : FnScope N_meeting ["begin", "step", "other", "jump"] (defScope s_meeting) := ⟨rfl, rfl, rfl, by decide +kernel, rfl, by decide +kernel, by decide +kernel⟩
abbrev s_is_up_to : Stmt := topS 26
abbrev N_is_up_to : List Str := ["count", "end"]
theorem sc_is_up_to : FnScope N_is_up_to ["count", "end"] (defScope s_is_up_to) := ⟨rfl, rfl, rfl, by decide +kernel, rfl, by decide +kernel, by decide +kernel⟩
def pre_meeting (ds : List PyData) : Prop := ∃ b s o j : Nat, b < 2 ^ 20 ∧ o < 2 ^ 20 ∧ 0 < s ∧ s < 2 ^ 20 ∧ 0 < j ∧ j < 2 ^ 20 ∧ ds = [.int b, .int s, .int o, .int j]
def R_meeting (ds : List PyData) (d : PyData) : Prop := ∃ b s o j : Nat, ds = [.int b, .int s, .int o, .int j] ∧ ((d = .none ∧ ∀ n : Int, ¬ ((s : Int) ∣ n - b ∧ (j : Int) ∣ n - o)) ∨ ∃ x : Nat, d = .int (x : Nat) ∧ Meet b s o j x)
theorem d_meeting (F : Fd K mg "meeting" s_meeting) (B : Nm mg) (D_common_divisor : Df P w K mg base "common_divisor" 1 ["one", "other"] (spP K R_divisor)) (D_common_multiple : Df P w K mg base "common_multiple" 2 ["one", "other"] (spP K R_multiple)) : Df P w K mg base "meeting" 3 ["begin", "step", "other", "jump"] (spA K pre_meeting R_meeting) := by
  refine d_all F sc_meeting (fun _ _ _ _ _ _ us hl => match us, hl with | [_, _, _, _], _ => rfl) (by rintro _ ⟨b, s, o, j, hb, ho, hs, hs2, hj, hj2, rfl⟩; rfl) fun f cdv A outer s H vs ds Q E hr hds hR k => ?_
  have hu64 := hr.units
  have hu65 := room65 hr
  have hu1 := room1 hr
  obtain ⟨b, s, o, j, hb, ho, hs, hs2, hj, hj2, rfl⟩ := hR
  cases hds with | cons h0 hds => ?_
  obtain ⟨v1, v2, v3, rfl, h1, h2, h3⟩ := dpa3 hds
  cases dp_int h0
  cases dp_int h1
  cases dp_int h2
  cases dp_int h3
  refine ⟨_, (pss_cons (ps_set (i := 4) sc_meeting.nd rfl (.inl rfl) (pe_df D_common_divisor (hr.mono (by decide)) (by rfl) (pa_cons (pv 1) (pa_cons (pv 3) pa_nil))))
      (pss_cons (ps_if (pt_cmpR (op_neK (K := K) hu64 rfl) (pe_op op_modN (pe_op op_sub (pv 2) (pv 0)) (pv 4)) pe_int (nomark _)) (pss_one (ps_ret pe_non)) pss_nil)
      (pss_cons (ps_asg (pe_tup (pa_cons (pe_op op_modN (pe_op op_fdivW (pv 1) (pv 4)) (pe_op op_fdivW (pv 3) (pv 4))) (pa_cons (pe_op op_fdivW (pv 3) (pv 4)) (pa_cons pe_int (pa_cons pe_int pa_nil))))) (pg_tupK (K := K) (n := 4) rfl rfl (pgs_cons (pg_name (i := 5) sc_meeting.nd rfl (.inl rfl)) (pgs_cons (pg_name (i := 6) sc_meeting.nd rfl (.inl rfl)) (pgs_cons (pg_name (i := 7) sc_meeting.nd rfl (.inl rfl)) (pgs_cons (pg_name (i := 8) sc_meeting.nd rfl (.inl rfl)) pgs_nil))))))
      (pss_cons (ps_while PassesOwn.never (pt_cmpR (op_neK (K := K) hu64 rfl) (pv 5) pe_int (nomark _)) (pss_cons (ps_set (i := 9) sc_meeting.nd rfl (.inl rfl) (pe_op op_fdivW (pv 6) (pv 5)))
      (pss_one (ps_asg (pe_tup (pa_cons (pe_op op_sub (pv 6) (pe_op op_mul (pv 9) (pv 5))) (pa_cons (pv 5) (pa_cons (pe_op op_sub (pv 8) (pe_op op_mul (pv 9) (pv 7))) (pa_cons (pv 7) pa_nil))))) (pg_tupK (K := K) (n := 4) rfl rfl (pgs_cons (pg_name (i := 5) sc_meeting.nd rfl (.inl rfl)) (pgs_cons (pg_name (i := 6) sc_meeting.nd rfl (.inl rfl)) (pgs_cons (pg_name (i := 7) sc_meeting.nd rfl (.inl rfl)) (pgs_cons (pg_name (i := 8) sc_meeting.nd rfl (.inl rfl)) pgs_nil)))))))))
      (pss_cons (ps_set (i := 10) sc_meeting.nd rfl (.inl rfl) (pe_op (op_plusK (K := K) rfl) (pv 0) (pe_op op_mul (pv 1) (pe_op op_modN (pe_op op_mul (pe_op op_fdivW (pe_op op_sub (pv 2) (pv 0)) (pv 4)) (pv 8)) (pe_op op_fdivW (pv 3) (pv 4))))))
      (pss_cons (ps_set (i := 11) sc_meeting.nd rfl (.inl rfl) (pe_df D_common_multiple (hr.mono (by decide)) (by rfl) (pa_cons (pv 1) (pa_cons (pv 3) pa_nil))))
      (pss_one (ps_ret (pe_op (op_plusK (K := K) rfl) (pv 10) (pe_op op_mul (pe_op (op_plusK (K := K) rfl) (pe_op op_fdivW (pe_op op_sub (pe_callB (call_max2 rfl) (by rfl) B.max (by decide +kernel) (pa_cons (pv 0) (pa_cons (pv 2) pa_nil))) (pv 10)) (pv 11)) pe_int) (pv 11))))))))))), ?_⟩
  try dsimp only [cxOf, Cx.nox, Cx.wish]
  have hg : 0 < Nat.gcd s j := Nat.gcd_pos_of_pos_left j hs
  have hgs : Nat.gcd s j ≤ s := Nat.gcd_le_left j hs
  have hLp : 0 < Nat.lcm s j := Nat.lcm_pos hs hj
  have hL : Nat.lcm s j < 2 ^ 40 := by
    refine Nat.lt_of_le_of_lt (Nat.le_of_dvd (Nat.mul_pos hs hj) (Nat.lcm_dvd_mul s j)) ?_
    calc s * j < 2 ^ 20 * 2 ^ 20 := Nat.mul_lt_mul_of_lt_of_lt hs2 hj2
      _ = 2 ^ 40 := by decide
  obtain ⟨M, hM⟩ := Nat.gcd_dvd_right s j
  have hMp : 0 < M := by
    rcases M with _ | M
    · rw [Nat.mul_zero] at hM; omega
    · exact Nat.succ_pos _
  have hM1 : (j : Int) / (Nat.gcd s j : Nat) = M := by
    conv => lhs; lhs; rw [hM]
    rw [Int.natCast_mul]
    exact Int.mul_ediv_cancel_left _ (by omega)
  have hMj : M ≤ j := by rw [hM]; exact Nat.le_mul_of_pos_left M hg
  have hM0 : (j : Int) / (Nat.gcd s j : Nat) ≠ 0 := by omega
  refine q_set K (d := .int (Nat.gcd s j : Nat)) (evd_call (by walk_at "ea") ⟨s, j, rfl, rfl⟩) fun v4 H1 e1 d4 => ?_
  cases dp_int d4
  refine q_when (b := !decide (((o : Int) - (b : Int)).fmod (Nat.gcd s j : Nat) = 0)) (by walk_at "et") (fun hd H2 e2 => ?_) (fun hd H2 e2 => ?_)
  · have hd : ((o : Int) - (b : Int)).fmod (Nat.gcd s j : Nat) ≠ 0 := by simpa using hd
    rw [Int.fmod_eq_emod_of_nonneg _ (by omega)] at hd
    refine s_ret K (d := .none) evd_non fun v H3 e3 dv => k .none v H3 ⟨b, s, o, j, rfl, .inl ⟨rfl, fun n => meet_none (w := (Nat.gcd s j : Nat)) (Int.natCast_dvd_natCast.mpr (Nat.gcd_dvd_left s j)) (Int.natCast_dvd_natCast.mpr (Nat.gcd_dvd_right s j)) (fun z => hd (Int.emod_eq_zero_of_dvd z)) n⟩⟩ (by walk_at "ex") dv
  have hd : ((o : Int) - (b : Int)).fmod (Nat.gcd s j : Nat) = 0 := by simpa using hd
  rw [Int.fmod_eq_emod_of_nonneg _ (by omega)] at hd
  refine q_asg K (d := .tuple [.int (((s : Int) / (Nat.gcd s j : Nat)).fmod ((j : Int) / (Nat.gcd s j : Nat))), .int ((j : Int) / (Nat.gcd s j : Nat)), .int 1, .int 0]) (by walk_at "ev") fun v H3 e3 dv => ?_
  refine g_four dv fun v5 v6 v7 v8 d5 d6 d7 d8 => ?_
  cases dp_int d5
  cases dp_int d6
  cases dp_int d7
  cases dp_int d8
  have efm : ∀ z : Int, z.fmod ((j : Int) / (Nat.gcd s j : Nat)) = z % ((j : Int) / (Nat.gcd s j : Nat)) := fun z => Int.fmod_eq_emod_of_nonneg _ (by omega)
  rw [efm]
  have r0 := Int.emod_nonneg ((s : Int) / (Nat.gcd s j : Nat)) hM0
  have r1 := Int.emod_lt_of_pos ((s : Int) / (Nat.gcd s j : Nat)) (show 0 < (j : Int) / (Nat.gcd s j : Nat) by omega)
  refine q_while (fun m σ' H' => ∃ (rest last times others : Int) (x9 : Option V), rest.toNat = m ∧ σ' = [some (.int b), some (.int s), some (.int o), some (.int j), some (.int (Nat.gcd s j : Nat)), some (.int rest), some (.int last), some (.int times), some (.int others), x9, none, none] ∧ Ex H3 H' ∧
    rest < 2 ^ 20 ∧ last < 2 ^ 20 ∧ Euc (((s : Int) / (Nat.gcd s j : Nat)) % ((j : Int) / (Nat.gcd s j : Nat))) ((j : Int) / (Nat.gcd s j : Nat)) rest last times others) _ ⟨_, _, 1, 0, none, rfl, rfl, Ex.refl _, by omega, by omega, euc_start r0 (by omega)⟩ ?_
  rintro m σ' H' ⟨rest, last, times, others, x9, rfl, rfl, e4, hr, hl, E0⟩
  refine ⟨!decide (rest = 0), by walk_at "et", fun hz H4 e5 => ?_, fun hz H4 e5 => ?_⟩
  · have hz : rest ≠ 0 := by simpa using hz
    have q0 := E0.r0
    have q1 := E0.lp
    have hrp : 0 < rest := by omega
    have t0 : 0 ≤ last / rest := Int.ediv_nonneg (by omega) q0
    have t1 : last / rest < 2 ^ 20 := Int.lt_of_le_of_lt (Int.ediv_le_self rest (by omega)) hl
    obtain ⟨E1, lt⟩ := euc_step E0 hz
    refine q_set K (d := .int (last / rest)) (by walk_at "ev") fun v9 H5 e6 d9 => ?_
    cases dp_int d9
    refine s_asg K (d := .tuple [.int (last - last / rest * rest), .int rest, .int (others - last / rest * times), .int times]) (by walk_at "ev") fun v H6 e7 dv => ?_
    refine g_four dv fun v5 v6 v7 v8 d5 d6 d7 d8 => ?_
    cases dp_int d5
    cases dp_int d6
    cases dp_int d7
    cases dp_int d8
    exact ⟨_, by have := E1.r0; omega, _, _, _, _, _, rfl, rfl, by walk_at "ex", by omega, by omega, E1⟩
  · have hz : rest = 0 := by simpa using hz
    subst hz
    have fin := meet_prog hs hj hd E0
    obtain ⟨q, hq⟩ := Int.dvd_of_emod_eq_zero hd
    have hq1 : ((o : Int) - b) / (Nat.gcd s j : Nat) = q := by rw [hq]; exact Int.mul_ediv_cancel_left _ (by omega)
    have hqa : q.natAbs ≤ ((o : Int) - b).natAbs := by
      rw [hq, Int.natAbs_mul]
      exact Nat.le_mul_of_pos_left _ (by omega)
    have q2 : -(2 ^ 64) < ((o : Int) - b) / (Nat.gcd s j : Nat) := by omega
    have q3 : ((o : Int) - b) / (Nat.gcd s j : Nat) < 2 ^ 64 := by omega
    have c1 : CMul (((o : Int) - b) / (Nat.gcd s j : Nat)) others := .inl ⟨q2, q3⟩
    clear q2 q3 hqa hq hq1 hr hl r0 r1
    refine q_set K (d := .int ((b : Int) + s * ((((o : Int) - b) / (Nat.gcd s j : Nat) * others).fmod ((j : Int) / (Nat.gcd s j : Nat))))) (by walk_at "ev") fun v10 H5 e6 d10 => ?_
    cases dp_int d10
    refine q_set K (d := .int (Nat.lcm s j : Nat)) (evd_call (by walk_at "ea") ⟨s, j, hs, by omega, by omega, rfl, rfl⟩) fun v11 H6 e7 d11 => ?_
    cases dp_int d11
    refine s_ret K (by walk_at "ev") fun v H7 e8 dv => ?_
    obtain ⟨x, hx, mx⟩ := fin
    rw [efm, hx] at dv
    exact k _ v H7 ⟨b, s, o, j, rfl, .inr ⟨x, rfl, mx⟩⟩ (by walk_at "ex") dv
def upB (c : Nat) : Option Nat → Bool
  | some n => decide (c ≤ n)
  | none => true
theorem upB_iff {c : Nat} {en : Option Nat} : upB c en = true ↔ upTo c en := by
  cases en with
  | none => exact ⟨fun _ x hx => (nomatch hx), fun _ => rfl⟩
  | some n => exact ⟨fun h x hx => by cases hx; exact of_decide_eq_true h, fun h => decide_eq_true (h n rfl)⟩
def R_upto (ds : List PyData) (d : PyData) : Prop := ∃ (c : Nat) (en : Option Nat), ds = [.int c, optD en] ∧ d = .bool (upB c en)
theorem d_is_up_to (F : Fd K mg "is_up_to" s_is_up_to) (B : Nm mg) : Df P w K mg base "is_up_to" 1 ["count", "end"] (spP K R_upto) := by
  refine d_pure F sc_is_up_to (fun _ _ _ _ _ _ us hl => match us, hl with | [_, _], _ => rfl) (by rintro _ _ ⟨c, en, rfl, rfl⟩; rfl) fun f cdv A outer s H vs ds d Q E hr hds hR k => ?_
  have hu64 := hr.units
  have hu65 := room65 hr
  have hu1 := room1 hr
  obtain ⟨c, en, rfl, rfl⟩ := hR
  obtain ⟨v0, v1, rfl, h0, h1⟩ := dpa2 hds
  cases dp_int h0
  refine ⟨_, (pss_one (ps_ret (pe_or (pe_cmpR op_isN (pv 1) pe_non (nomark _)) (pe_one (pe_cmpR op_le (pv 0) (pv 1) (nomark _)))))), ?_⟩
  try dsimp only [cxOf, Cx.nox, Cx.wish]
  refine s_ret K (d := .bool (upB c en)) ?_ fun v H1 e dv => k v H1 (by walk_at "ex") dv
  cases en with
  | none =>
    have h1 : Dp K H v1 .none := h1
    cases dp_non h1
    exact evd_is (evd_orV (a := true) (b := true) (by walk_at "ev") fun z => nomatch z) rfl
  | some n =>
    cases dp_int h1
    exact evd_is (evd_orV (by walk_at "ev") fun _ => by walk_at "ev") (by simp [upB])
end Bw
end
section
set_option Elab.async false
set_option linter.all false
set_option maxRecDepth 100000
set_option maxHeartbeats 4000000
namespace Bw
open PySem PySem.Spec PyProof.Rows L2 Bfb
local macro_rules | `(tactic| walk_at "ex") => `(tactic| first
  | assumption
  | exact Ex.refl _
  | (refine Ex.trans ?_ (by assumption); walk_at "ex"))
local macro_rules | `(tactic| walk_at "om") => `(tactic| first | omega | assumption | (left; constructor <;> omega) | (right; constructor <;> omega) | decide)
local macro_rules | `(tactic| walk_at "ln") => `(tactic| first | decide | (simp only [List.length_cons, List.length_nil, List.length_append, List.length_map]; omega))
local macro_rules | `(tactic| walk_at "rd") => `(tactic| first
  | with_reducible exact rd_plus
  | with_reducible exact rd_sub
  | with_reducible exact rd_lt
  | with_reducible exact rd_le
  | with_reducible exact rd_gt
  | with_reducible exact rd_ge
  | with_reducible exact rd_eqI
  | with_reducible exact rd_neI
  | ((with_reducible apply rd_eqD); rfl; rfl)
  | ((with_reducible apply rd_neD); rfl; rfl)
  | ((with_reducible apply rd_mul); walk_at "om")
  | ((with_reducible apply rd_div); walk_at "om"; walk_at "om")
  | ((with_reducible apply rd_mod); walk_at "om")
  | ((with_reducible apply rd_divW); walk_at "om"; walk_at "om")
  | ((with_reducible apply rd_ixT); rfl)
  | ((with_reducible apply rd_ixL); rfl)
  | with_reducible exact rd_isNi
  | with_reducible exact rd_isNn
  | with_reducible exact rd_isNt
  | with_reducible exact rd_notNn)
local macro_rules | `(tactic| walk_at "ev") => `(tactic| first
  | with_reducible exact evd_int
  | ((with_reducible apply evd_varI); rfl)
  | ((with_reducible apply evd_varB); rfl)
  | ((with_reducible apply evd_var); rfl; assumption; walk_at "ex")
  | with_reducible exact evd_bl
  | with_reducible exact evd_non
  | with_reducible exact evd_str
  | ((with_reducible apply evd_op); walk_at "ev"; walk_at "ev"; walk_at "rd")
  | ((with_reducible apply evd_tup); walk_at "ea"; walk_at "ln")
  | ((with_reducible apply evd_lst); walk_at "ea"; walk_at "ln")
  | ((with_reducible apply evd_isInt); walk_at "ev")
  | ((with_reducible apply evd_isBool); walk_at "ev")
  | ((with_reducible apply evd_isTuple); walk_at "ev")
  | ((with_reducible apply evd_cb); walk_at "ea"; walk_at "rc")
  | with_reducible exact evd_neg1
  | ((with_reducible apply evd_notV); walk_at "ev")
  | ((with_reducible apply evd_call); walk_at "ea"; assumption))
local macro_rules | `(tactic| walk_at "ea") => `(tactic| first
  | with_reducible exact evda_nil
  | ((with_reducible apply evda_cons); walk_at "ev"; walk_at "ea")
  | ((with_reducible apply evda_starT); walk_at "ev"; walk_at "ea")
  | ((with_reducible apply evda_starL); walk_at "ev"; walk_at "ea"))
local macro_rules | `(tactic| walk_at "rc") => `(tactic| first
  | with_reducible exact rc_len
  | with_reducible exact rc_lenT
  | with_reducible exact rc_tupL
  | with_reducible exact rc_tupT
  | with_reducible exact rc_listL
  | with_reducible exact rc_listT
  | with_reducible exact rc_min2
  | with_reducible exact rc_max2
  | with_reducible exact rc_int1
  | with_reducible exact rc_abs
  | with_reducible exact rc_all
  | with_reducible exact rc_sum)
local macro_rules | `(tactic| walk_at "et") => `(tactic| first
  | ((with_reducible apply et_test (K := ‹PySem.W.Frag›)); walk_at "ev")
  | ((with_reducible apply et_B (K := ‹PySem.W.Frag›)); walk_at "ev")
  | ((with_reducible apply et_not); walk_at "et"))

variable {P : Program} {w : World} {K : PySem.W.Frag} {mg : Str → Option Value} {base : Heap}
abbrev s_first_common : Stmt := topS 27
abbrev N_first_common : List Str := ["one", "other", "first", "second", "at", "to", "begin", "step", "end", "origin", "jump", "last", "found"]
theorem sc_first_common : FnScope N_first_common ["one", "other"] (defScope s_first_common) := ⟨rfl, rfl, rfl, by decide +kernel, rfl, by decide +kernel, by decide +kernel⟩
abbrev s_times_at_once : Stmt := topS 28
abbrev N_times_at_once : List Str := ["one", "other", "step", "first", "second", "begin", "own", "end", "ends"]
theorem sc_times_at_once : FnScope N_times_at_once ["one", "other", "step"] (defScope s_times_at_once) := ⟨rfl, rfl, rfl, by decide +kernel, rfl, by decide +kernel, by decide +kernel⟩
def pre_common (ds : List PyData) : Prop := ∃ X Y : Bfb.Row, Ok X ∧ Ok Y ∧ 0 < X.2 ∧ 0 < Y.2 ∧ ds = [rowD X, rowD Y]
def R_common (ds : List PyData) (d : PyData) : Prop := ∃ (X Y : Bfb.Row) (x : Nat), ds = [rowD X, rowD Y] ∧ d = .int (x : Nat) ∧ Least (InR X) (InR Y) x
theorem d_first_common (F : Fd K mg "first_common" s_first_common) (B : Nm mg) (D_pieces_of : Df P w K mg base "pieces_of" 1 ["row"] (spP K R_pieces)) (D_meeting : Df P w K mg base "meeting" 3 ["begin", "step", "other", "jump"] (spA K pre_meeting R_meeting)) (D_is_up_to : Df P w K mg base "is_up_to" 1 ["count", "end"] (spP K R_upto)) : Df P w K mg base "first_common" 4 ["one", "other"] (spA K pre_common R_common) := by
  refine d_all F sc_first_common (fun _ _ _ _ _ _ us hl => match us, hl with | [_, _], _ => rfl) (by rintro _ ⟨X, Y, hX, hY, pX, pY, rfl⟩; rfl) fun f cdv A outer s H vs ds Q E hr hds hR k => ?_
  have hu64 := hr.units
  have hu65 := room65 hr
  have hu1 := room1 hr
  obtain ⟨X, Y, hX, hY, pX, pY, rfl⟩ := hR
  obtain ⟨v0, v1, rfl, h0, h1⟩ := dpa2 hds
  refine ⟨_, (pss_cons (ps_asg (pe_tup (pa_cons (pe_df D_pieces_of (hr.mono (by decide)) (by rfl) (pa_cons (pv 0) pa_nil)) (pa_cons (pe_df D_pieces_of (hr.mono (by decide)) (by rfl) (pa_cons (pv 1) pa_nil)) (pa_cons pe_int (pa_cons pe_int pa_nil))))) (pg_tupK (K := K) (n := 4) rfl rfl (pgs_cons (pg_name (i := 2) sc_first_common.nd rfl (.inl rfl)) (pgs_cons (pg_name (i := 3) sc_first_common.nd rfl (.inl rfl)) (pgs_cons (pg_name (i := 4) sc_first_common.nd rfl (.inl rfl)) (pgs_cons (pg_name (i := 5) sc_first_common.nd rfl (.inl rfl)) pgs_nil))))))
      (pss_one (ps_while PassesOwn.never (pt_val pe_bl) (pss_cons (ps_asg (pe_ix (ix_K (K := K) rfl) (pv 2) (pv 4) (fun _ _ => rfl)) (pg_tupK (K := K) (n := 3) rfl rfl (pgs_cons (pg_name (i := 6) sc_first_common.nd rfl (.inl rfl)) (pgs_cons (pg_name (i := 7) sc_first_common.nd rfl (.inl rfl)) (pgs_cons (pg_name (i := 8) sc_first_common.nd rfl (.inl rfl)) pgs_nil)))))
      (pss_cons (ps_asg (pe_ix (ix_K (K := K) rfl) (pv 3) (pv 5) (fun _ _ => rfl)) (pg_tupK (K := K) (n := 3) rfl rfl (pgs_cons (pg_name (i := 9) sc_first_common.nd rfl (.inl rfl)) (pgs_cons (pg_name (i := 10) sc_first_common.nd rfl (.inl rfl)) (pgs_cons (pg_name (i := 11) sc_first_common.nd rfl (.inl rfl)) pgs_nil)))))
      (pss_cons (ps_set (i := 12) sc_first_common.nd rfl (.inl rfl) (pe_df D_meeting (hr.mono (by decide)) (by rfl) (pa_cons (pv 6) (pa_cons (pv 7) (pa_cons (pv 9) (pa_cons (pv 10) pa_nil))))))
      (pss_cons (ps_if (PW.pt (pw_and (pt_cmpR op_notN (pv 12) pe_non (nomark _)) (pw_and (pt_val (pe_df D_is_up_to (hr.mono (by decide)) (by rfl) (pa_cons (pv 12) (pa_cons (pv 8) pa_nil)))) (pw_and1 (pt_val (pe_df D_is_up_to (hr.mono (by decide)) (by rfl) (pa_cons (pv 12) (pa_cons (pv 11) pa_nil)))))))) (pss_one (ps_ret (pv 12))) pss_nil)
      (pss_one (ps_if (PW.pt (pw_or (pt_cmpR op_isN (pv 11) pe_non (nomark _)) (pw_or1 (PW.pt (pw_and (pt_cmpR op_notN (pv 8) pe_non (nomark _)) (pw_and1 (pt_cmpR op_le (pv 8) (pv 11) (nomark _)))))))) (pss_one (ps_set (i := 4) sc_first_common.nd rfl (.inl rfl) (pe_op (op_plusK (K := K) rfl) (pv 4) pe_int))) (pss_one (ps_set (i := 5) sc_first_common.nd rfl (.inl rfl) (pe_op (op_plusK (K := K) rfl) (pv 5) pe_int)))))))))))), ?_⟩
  try dsimp only [cxOf, Cx.nox, Cx.wish]
  have bdX := fun p hp => pieces_bd (b := 0) p hp hX.v
  have bdY := fun p hp => pieces_bd (b := 0) p hp hY.v
  have fX := hX.far
  have fY := hY.far
  have nX := hX.en
  have nY := hY.en
  have okX := fun i p => pieces_ok (b := 0) (S := InR X) hX.v pX (fun n => by rw [Nat.zero_add]; exact Iff.rfl) i p
  have okY := fun i p => pieces_ok (b := 0) (S := InR Y) hY.v pY (fun n => by rw [Nat.zero_add]; exact Iff.rfl) i p
  refine q_asg K (d := .tuple [.list ((pieces X.1 X.2 0).map pieceD), .list ((pieces Y.1 Y.2 0).map pieceD), .int 0, .int 0]) (evd_tup (evda_cons (evd_call (by walk_at "ea") ⟨X, hX, rfl, rfl⟩) (evda_cons (evd_call (by walk_at "ea") ⟨Y, hY, rfl, rfl⟩) (by walk_at "ea"))) (by walk_at "ln")) fun v H1 e1 dv => ?_
  refine g_four dv fun v2 v3 v4 v5 d2 d3 d4 d5 => ?_
  cases dp_int d4
  cases dp_int d5
  obtain ⟨s, en, j, la, S0⟩ := seek_start (S1 := InR X) (S2 := InR Y) hX.v hY.v pX pY (fun _ => Iff.rfl) (fun _ => Iff.rfl)
  refine s_while (fun m σ' H' => ∃ (i k b s : Nat) (en : Option Nat) (o j : Nat) (la : Option Nat) (x6 x7 x8 x9 x10 x11 x12 : Option V), ((pieces X.1 X.2 0).length - i) + ((pieces Y.1 Y.2 0).length - k) = m ∧
    σ' = [some v0, some v1, some v2, some v3, some (.int (i : Nat)), some (.int (k : Nat)), x6, x7, x8, x9, x10, x11, x12] ∧ Ex H1 H' ∧ Seek (InR X) (InR Y) (pieces X.1 X.2 0) (pieces Y.1 Y.2 0) i k b s en o j la) _ ⟨0, 0, 0, s, en, 0, j, la, none, none, none, none, none, none, none, rfl, rfl, Ex.refl _, S0⟩ ?_
  rintro m σ' H' ⟨i, k', b, s, en, o, j, la, x6, x7, x8, x9, x10, x11, x12, hm, rfl, e2, S⟩
  refine ⟨true, et_B (K := K) evd_bl, fun _ H2 e3 => ?_, fun z => nomatch z⟩
  have hi := (List.getElem?_eq_some_iff.mp S.one.at_).1
  have hk := (List.getElem?_eq_some_iff.mp S.two.at_).1
  have B1 := bdX _ (List.mem_of_getElem? S.one.at_)
  have B2 := bdY _ (List.mem_of_getElem? S.two.at_)
  have p1 := S.one.pos
  have p2 := S.two.pos
  have a1 : atI ((pieces X.1 X.2 0).map pieceD) (i : Int) = some (.tuple [.int (b : Nat), .int (s : Nat), optD en]) := at_nat (by rw [List.getElem?_map, S.one.at_]; rfl)
  have a2 : atI ((pieces Y.1 Y.2 0).map pieceD) (k' : Int) = some (.tuple [.int (o : Nat), .int (j : Nat), optD la]) := at_nat (by rw [List.getElem?_map, S.two.at_]; rfl)
  refine q_asg K (d := .tuple [.int (b : Nat), .int (s : Nat), optD en]) (evd_op (by walk_at "ev") (by walk_at "ev") (rd_ixL a1)) fun v H3 e4 dv => ?_
  refine g_three dv fun v6 v7 v8 d6 d7 d8 => ?_
  cases dp_int d6
  cases dp_int d7
  refine q_asg K (d := .tuple [.int (o : Nat), .int (j : Nat), optD la]) (evd_op (by walk_at "ev") (by walk_at "ev") (rd_ixL a2)) fun v H4 e5 dv => ?_
  refine g_three dv fun v9 v10 v11 d9 d10 d11 => ?_
  cases dp_int d9
  cases dp_int d10
  simp only at B1 B2
  refine q_setA K (ds := [.int (b : Nat), .int (s : Nat), .int (o : Nat), .int (j : Nat)]) (by walk_at "ea") ⟨b, s, o, j, by omega, by omega, p1, by omega, p2, by omega, rfl⟩ fun d v12 H5 hR e6 d12 => ?_
  obtain ⟨b', s', o', j', eq, hR⟩ := hR
  obtain ⟨rfl, rfl, rfl, rfl⟩ : b = b' ∧ s = s' ∧ o = o' ∧ j = j' := by
    have q : (b : Int) = b' ∧ (s : Int) = s' ∧ (o : Int) = o' ∧ (j : Int) = j' := by simpa using eq
    omega
  have d8' : Dp K H5 v8 (optD en) := dp_ex (by walk_at "ex") d8
  have d11' : Dp K H5 v11 (optD la) := dp_ex (by walk_at "ex") d11
  have key : ∃ bo : Bool, EvT (tAnd (tTest (tOp (fun x y H Q => y = V.non ∧ Q (V.bl !decide (x = V.non)) H) (tVar 12) (tC V.non)))
                  (tAnd (tB (tCall (spP K R_upto) [] E0 (tCons (tVar 12) (tCons (tVar 8) tNil))))
                    (tB (tCall (spP K R_upto) [] E0 (tCons (tVar 12) (tCons (tVar 11) tNil)))))) [some v0, some v1, some v2, some v3, some (.int (i : Nat)), some (.int (k' : Nat)), some (.int (b : Nat)), some (.int (s : Nat)), some v8, some (.int (o : Nat)), some (.int (j : Nat)), some v11, some v12] H5 bo ∧
      (bo = true → ∃ x : Nat, v12 = .int (x : Nat) ∧ Least (InR X) (InR Y) x) ∧ (bo = false → (∀ n : Int, ¬ ((s : Int) ∣ n - b ∧ (j : Int) ∣ n - o)) ∨ ∃ x : Nat, Meet b s o j x ∧ ¬ (upTo x en ∧ upTo x la)) := by
    rcases hR with ⟨rfl, hno⟩ | ⟨x, rfl, hm⟩
    · cases dp_non d12
      exact ⟨false, et_is (et_and (a := false) (b := true) (et_test (K := K) (by walk_at "ev")) fun z => nomatch z) rfl, (fun z => nomatch z), fun _ => .inl hno⟩
    · cases dp_int d12
      refine ⟨upB x en && upB x la, et_is (et_and (a := true) (et_test (K := K) (by walk_at "ev")) fun _ => et_and (et_B (evd_call (by walk_at "ea") ⟨x, en, rfl, rfl⟩)) fun _ => et_B (evd_call (by walk_at "ea") ⟨x, la, rfl, rfl⟩)) (by rw [Bool.true_and]), fun hb => ?_, fun hb => .inr ⟨x, hm, fun z => ?_⟩⟩
      · have hb := (Bool.and_eq_true _ _).mp hb
        exact ⟨x, rfl, seek_found S hm (upB_iff.mp hb.1) (upB_iff.mp hb.2)⟩
      · rw [upB_iff.mpr z.1, upB_iff.mpr z.2] at hb
        cases hb
  obtain ⟨bo, hbo, hyes, hno⟩ := key
  refine q_when hbo (fun hb H6 e7 => ?_) (fun hb H6 e7 => ?_)
  · obtain ⟨x, rfl, hl⟩ := hyes hb
    exact s_ret K (d := .int (x : Nat)) (by walk_at "ev") fun v H7 e8 dv => k _ v H7 ⟨X, Y, x, rfl, rfl, hl⟩ (by walk_at "ex") dv
  have hno := hno hb
  have d8' : Dp K H6 v8 (optD en) := dp_ex e7 d8'
  have d11' : Dp K H6 v11 (optD la) := dp_ex e7 d11'
  rcases la with _ | z <;> rcases en with _ | y
  · exfalso
    obtain ⟨n, hn, c1, c2⟩ := common_far hX.v hY.v pX pY (max b o)
    have q1 := (dvd_sub_int (show b ≤ n by omega)).mp ((S.one.mem n (by omega) fun x hx => nomatch hx).mp c1)
    have q2 := (dvd_sub_int (show o ≤ n by omega)).mp ((S.two.mem n (by omega) fun x hx => nomatch hx).mp c2)
    rcases hno with hno | ⟨x, _, hno⟩
    · exact hno n ⟨q1, q2⟩
    · exact hno ⟨(fun x hx => nomatch hx), (fun x hx => nomatch hx)⟩
  · have d11' : Dp K H6 v11 .none := d11'
    cases dp_non d11'
    obtain ⟨s', en', S'⟩ := seek_one S okX hno (fun x hx => nomatch hx)
    refine s_if (b := true) (et_is (et_or (a := true) (b := true) (et_test (K := K) (by walk_at "ev")) fun z => nomatch z) rfl) (fun _ H7 e8 => ?_) fun z => nomatch z
    refine s_set K (d := .int ((i : Int) + 1)) (by walk_at "ev") fun v H8 e9 dv => ?_
    cases dp_int dv
    exact ⟨_, by omega, i + 1, k', y, s', en', o, j, none, _, _, _, _, _, _, _, rfl, rfl, by walk_at "ex", S'⟩
  · have d11' : Dp K H6 v11 (.int (z : Nat)) := d11'
    cases dp_int d11'
    have d8' : Dp K H6 v8 .none := d8'
    cases dp_non d8'
    obtain ⟨j', la', S'⟩ := seek_two S okY hno (fun x hx => nomatch hx)
    refine s_if (b := false) (et_is (et_or (a := false) (b := false) (et_test (K := K) (by walk_at "ev")) fun _ => et_is (et_and (a := false) (b := true) (et_test (K := K) (by walk_at "ev")) fun z => nomatch z) rfl) rfl) (fun z => nomatch z) (fun _ H7 e8 => ?_)
    refine s_set K (d := .int ((k' : Int) + 1)) (by walk_at "ev") fun v H8 e9 dv => ?_
    cases dp_int dv
    exact ⟨_, by omega, i, k' + 1, b, s, none, z, j', la', _, _, _, _, _, _, _, rfl, rfl, by walk_at "ex", S'⟩
  · have d11' : Dp K H6 v11 (.int (z : Nat)) := d11'
    cases dp_int d11'
    have d8' : Dp K H6 v8 (.int (y : Nat)) := d8'
    cases dp_int d8'
    refine s_if (b := decide ((y : Int) ≤ (z : Int))) (et_is (et_or (a := false) (b := decide ((y : Int) ≤ (z : Int))) (et_test (K := K) (by walk_at "ev")) fun _ => et_is (et_and (a := true) (et_test (K := K) (by walk_at "ev")) fun _ => by walk_at "et") (by rw [Bool.true_and])) (by rw [Bool.false_or])) (fun hle H7 e8 => ?_) (fun hle H7 e8 => ?_)
    · have hle : (y : Int) ≤ (z : Int) := of_decide_eq_true hle
      obtain ⟨s', en', S'⟩ := seek_one S okX hno (fun x hx => by cases hx; omega)
      refine s_set K (d := .int ((i : Int) + 1)) (by walk_at "ev") fun v H8 e9 dv => ?_
      cases dp_int dv
      exact ⟨_, by omega, i + 1, k', y, s', en', o, j, some z, _, _, _, _, _, _, _, rfl, rfl, by walk_at "ex", S'⟩
    · have hle : ¬ (y : Int) ≤ (z : Int) := of_decide_eq_false hle
      obtain ⟨j', la', S'⟩ := seek_two S okY hno (fun x hx => by cases hx; omega)
      refine s_set K (d := .int ((k' : Int) + 1)) (by walk_at "ev") fun v H8 e9 dv => ?_
      cases dp_int dv
      exact ⟨_, by omega, i, k' + 1, b, s, some y, z, j', la', _, _, _, _, _, _, _, rfl, rfl, by walk_at "ex", S'⟩
/-- the first piece of a row -/
def hdP (R : Bfb.Row) : Piece := match R.1 with
  | [] => (0, R.2, none)
  | (s, t) :: _ => (0, s, some (0 + s * t))
theorem hdP_cons (R : Bfb.Row) : ∃ l, pieces R.1 R.2 0 = hdP R :: l := by
  obtain ⟨r, e⟩ := R
  cases r with
  | nil => exact ⟨[], rfl⟩
  | cons p r => exact ⟨_, rfl⟩
theorem hdP_step (R : Bfb.Row) : (hdP R).2.1 = fstep R.1 R.2 := by
  obtain ⟨r, e⟩ := R
  cases r <;> rfl
theorem hdP_end {R : Bfb.Row} {n : Nat} (h : (hdP R).2.2 = some n) : ∀ s k r, R.1 = (s, k) :: r → n = s * k := by
  obtain ⟨r, e⟩ := R
  intro s k r' h2
  simp only at h2
  subst h2
  simpa [hdP] using h.symm
theorem hdP_some {R : Bfb.Row} {s k : Nat} {r : Runs} (h : R.1 = (s, k) :: r) : (hdP R).2.2 = some (s * k) := by
  obtain ⟨r', e⟩ := R
  simp only at h
  subst h
  simp [hdP]
theorem hdP_none {R : Bfb.Row} (h : (hdP R).2.2 = none) : R.1 = [] := by
  obtain ⟨r, e⟩ := R
  cases r with
  | nil => rfl
  | cons p r => cases h
theorem fstep_pos {R : Bfb.Row} (v : VR R) (p : 0 < R.2) : 0 < fstep R.1 R.2 := by
  obtain ⟨r, e⟩ := R
  cases r with
  | nil => exact p
  | cons q r => exact fstep_pos_of_valid v
def pre_times (ds : List PyData) : Prop := ∃ (X Y : Bfb.Row) (x : Nat), Ok X ∧ Ok Y ∧ 0 < X.2 ∧ 0 < Y.2 ∧ 0 < x ∧ x < 2 ^ 29 ∧ (X.1 ≠ [] ∨ Y.1 ≠ []) ∧ ds = [rowD X, rowD Y, .int x]
def R_times (ds : List PyData) (d : PyData) : Prop := ∃ (X Y : Bfb.Row) (x t : Nat), ds = [rowD X, rowD Y, .int x] ∧ d = .int (t : Nat) ∧ t < 2 ^ 20 ∧ TimesOk X.1 X.2 Y.1 Y.2 x t
theorem d_times_at_once (F : Fd K mg "times_at_once" s_times_at_once) (B : Nm mg) (D_pieces_of : Df P w K mg base "pieces_of" 1 ["row"] (spP K R_pieces)) : Df P w K mg base "times_at_once" 2 ["one", "other", "step"] (spA K pre_times R_times) := by
  refine d_all F sc_times_at_once (fun _ _ _ _ _ _ us hl => match us, hl with | [_, _, _], _ => rfl) (by rintro _ ⟨X, Y, x, hX, hY, pX, pY, px, px2, hne, rfl⟩; rfl) fun f cdv A outer s H vs ds Q E hr hds hR k => ?_
  have hu64 := hr.units
  have hu65 := room65 hr
  have hu1 := room1 hr
  obtain ⟨X, Y, x, hX, hY, pX, pY, px, px2, hne, rfl⟩ := hR
  obtain ⟨v0, v1, v2, rfl, h0, h1, h2⟩ := dpa3 hds
  cases dp_int h2
  refine ⟨_, (pss_cons (ps_par (i := 3) (j := 4) (by rfl) sc_times_at_once.nd rfl rfl (by decide) rfl rfl (pa_cons (pe_ix (ix_K (K := K) rfl) (pe_df D_pieces_of (hr.mono (by decide)) (by rfl) (pa_cons (pv 0) pa_nil)) pe_int (fun _ _ => rfl)) (pa_cons (pe_ix (ix_K (K := K) rfl) (pe_df D_pieces_of (hr.mono (by decide)) (by rfl) (pa_cons (pv 1) pa_nil)) pe_int (fun _ _ => rfl)) pa_nil)) (by rfl))
      (pss_cons (ps_setLc (i := 8) (own := [("begin", 5), ("own", 6), ("end", 7)]) rfl sc_times_at_once.nd rfl rfl (sw_true rfl rfl rfl (by decide +kernel)) (pi_seqK (K := K) rfl (pe_tup (pa_cons (pv 3) (pa_cons (pv 4) pa_nil)))) (blkOk_by (own := [("begin", 5), ("own", 6), ("end", 7)]) (N := N_times_at_once) (sc := defScope s_times_at_once) (by decide +kernel)) (fun _ _ _ _ _ => (pg_tupK (K := K) (n := 3) rfl rfl (pgs_cons (pg_name (i := 5) sc_times_at_once.nd rfl (.inl rfl)) (pgs_cons (pg_name (i := 6) sc_times_at_once.nd rfl (.inl rfl)) (pgs_cons (pg_name (i := 7) sc_times_at_once.nd rfl (.inl rfl)) pgs_nil))))) (fun _ _ _ _ _ => pts_one (pt_cmpR op_notN (pv 7) pe_non (nomark _))) (fun _ _ _ _ _ => (pv 7)))
      (pss_one (ps_ret (pe_ifExp (PW.pt (pw_and (pt_cmpR (op_eqK (K := K) hu64 rfl) (pe_op op_modN (pv 2) (pe_ix (ix_K (K := K) rfl) (pv 3) pe_int (fun _ _ => rfl))) pe_int (nomark _)) (pw_and1 (pt_cmpR (op_eqK (K := K) hu64 rfl) (pe_op op_modN (pv 2) (pe_ix (ix_K (K := K) rfl) (pv 4) pe_int (fun _ _ => rfl))) pe_int (nomark _))))) (pe_callB (call_max2 rfl) (by rfl) B.max (by decide +kernel) (pa_cons pe_int (pa_cons (pe_op op_fdivN (pe_callB (cr_min rfl) (by rfl) B.min (by decide +kernel) (pa_cons (pv 8) pa_nil)) (pv 2)) pa_nil))) pe_int))))), ?_⟩
  try dsimp only [cxOf, Cx.nox, Cx.wish]
  obtain ⟨l1, q1⟩ := hdP_cons X
  obtain ⟨l2, q2⟩ := hdP_cons Y
  have f1 := fstep_pos hX.v pX
  have f2 := fstep_pos hY.v pY
  have px' : (x : Int).natAbs < 1073741824 := by
    have : (2 : Nat) ^ 29 = 536870912 := by decide
    omega
  have i1 : atI ((pieces X.1 X.2 0).map pieceD) (0 : Int) = some (pieceD (hdP X)) := at_nat (i := 0) (by rw [q1]; rfl)
  have i2 : atI ((pieces Y.1 Y.2 0).map pieceD) (0 : Int) = some (pieceD (hdP Y)) := at_nat (i := 0) (by rw [q2]; rfl)
  refine q_par K (d := pieceD (hdP X)) (e := pieceD (hdP Y)) (evda_cons (evd_op (evd_call (by walk_at "ea") ⟨X, hX, rfl, rfl⟩) (by walk_at "ev") (rd_ixL i1)) (evda_cons (evd_op (evd_call (by walk_at "ea") ⟨Y, hY, rfl, rfl⟩) (by walk_at "ev") (rd_ixL i2)) evda_nil)) fun v3 v4 H1 e1 d3 d4 => ?_
  let en : List Nat := [hdP X, hdP Y].filterMap (·.2.2)
  have hE : (([hdP X, hdP Y].filter fun p => p.2.2.isSome).map fun p => optD p.2.2) = en.map intN := by
    show _ = ([hdP X, hdP Y].filterMap (·.2.2)).map intN
    cases h1 : (hdP X).2.2 <;> cases h2 : (hdP Y).2.2 <;> simp [h1, h2, optD, intN]
  refine q_set K (d := .list (en.map intN)) (evd_is (evd_lcI (b := false) pieceD [hdP X, hdP Y] (fun p => p.2.2.isSome) (fun p => optD p.2.2) (show EvD K _ _ _ (.tuple [pieceD (hdP X), pieceD (hdP Y)]) from by walk_at "ev") (by walk_at "ln") (fun p _ _ => by cases p.2.2 <;> rfl) fun p hp => ?_) (by rw [hE])) fun v8 H2 e2 d8 => ?_
  · refine lct_three (fun v u t => rfl) fun v u t H1 e dv du dt => ?_
    obtain ⟨a, b, c⟩ := p
    cases c with
    | none =>
      have dt : Dp K H1 t .none := dt
      cases dp_non dt
      exact ⟨et_is (a := false) (by walk_at "et") rfl, fun z => nomatch z⟩
    | some n =>
      have dt : Dp K H1 t (.int (n : Nat)) := dt
      cases dp_int dt
      exact ⟨et_is (a := true) (by walk_at "et") rfl, fun _ => show EvD K _ _ _ (.int (n : Nat)) from by walk_at "ev"⟩
  have hne' : en ≠ [] := fun z => by
    have z := List.filterMap_eq_nil_iff.mp z
    rcases hne with h | h
    · exact h (hdP_none (z (hdP X) (by simp)))
    · exact h (hdP_none (z (hdP Y) (by simp)))
  obtain ⟨m, hm, hml⟩ := min_mem hne'
  have hmb : m < 65536 := by
    obtain ⟨p, hp, hpm⟩ := List.mem_filterMap.mp hm
    have go : ∀ R, Ok R → (hdP R).2.2 = some m → m < 65536 := fun R hR hq => by
      obtain ⟨r, e⟩ := R
      cases r with
      | nil => cases hq
      | cons p r =>
        obtain ⟨s, t⟩ := p
        have := hdP_end hq s t r rfl
        have h2 := hR.far
        simp only [far] at h2
        omega
    rcases List.mem_cons.mp hp with rfl | hp
    · exact go X hX hpm
    · rw [List.mem_singleton.mp hp] at hpm
      exact go Y hY hpm
  have mle : ∀ R, R = X ∨ R = Y → ∀ s k r, R.1 = (s, k) :: r → m ≤ s * k := fun R hR s k r h => by
    refine hml _ (List.mem_filterMap.mpr ⟨hdP R, ?_, hdP_some h⟩)
    rcases hR with rfl | rfl <;> simp
  have s1 : Dp K H2 v3 (.tuple [.int (0 : Nat), .int (fstep X.1 X.2 : Nat), optD (hdP X).2.2]) := dp_ex e2 (by
    have : pieceD (hdP X) = .tuple [.int (0 : Nat), .int (fstep X.1 X.2 : Nat), optD (hdP X).2.2] := by
      rw [← hdP_step]
      obtain ⟨r, e⟩ := X
      cases r <;> rfl
    rw [← this]; exact d3)
  have s2 : Dp K H2 v4 (.tuple [.int (0 : Nat), .int (fstep Y.1 Y.2 : Nat), optD (hdP Y).2.2]) := dp_ex e2 (by
    have : pieceD (hdP Y) = .tuple [.int (0 : Nat), .int (fstep Y.1 Y.2 : Nat), optD (hdP Y).2.2] := by
      rw [← hdP_step]
      obtain ⟨r, e⟩ := Y
      cases r <;> rfl
    rw [← this]; exact d4)
  have g1 : (x : Int).fmod (fstep X.1 X.2 : Nat) = ((x % fstep X.1 X.2 : Nat) : Int) := fmodN _ _
  have g2 : (x : Int).fmod (fstep Y.1 Y.2 : Nat) = ((x % fstep Y.1 Y.2 : Nat) : Int) := fmodN _ _
  have f1' : ((fstep X.1 X.2 : Nat) : Int) ≠ 0 := by omega
  have f2' : ((fstep Y.1 Y.2 : Nat) : Int) ≠ 0 := by omega
  have rt : ∀ (t : Nat) v H3, t < 2 ^ 20 → TimesOk X.1 X.2 Y.1 Y.2 x t → Ex H2 H3 → Dp K H3 v (.int (t : Nat)) → Q v H3 := fun t v H3 ht hT e3 dv => k _ v H3 ⟨X, Y, x, t, rfl, rfl, ht, hT⟩ (e1.trans (e2.trans e3)) dv
  by_cases hdv : fstep X.1 X.2 ∣ x ∧ fstep Y.1 Y.2 ∣ x
  · have z1 : x % fstep X.1 X.2 = 0 := Nat.mod_eq_zero_of_dvd hdv.1
    have z2 : x % fstep Y.1 Y.2 = 0 := Nat.mod_eq_zero_of_dvd hdv.2
    have hmx : m / x < 65536 := Nat.lt_of_le_of_lt (Nat.div_le_self m x) hmb
    have x0 : (x : Int) ≠ 0 := by omega
    refine s_ret K (d := .int (max 1 (m / x) : Nat)) (evd_if (b := true) (et_is (et_and (a := true) (et_is (a := decide ((x : Int).fmod (fstep X.1 X.2 : Nat) = 0)) (by walk_at "et") (by rw [g1, z1]; rfl)) fun _ => et_is (a := decide ((x : Int).fmod (fstep Y.1 Y.2 : Nat) = 0)) (b := true) (by walk_at "et") (by rw [g2, z2]; rfl)) rfl)
      (fun _ => evd_is (d := .int (max 1 ((m : Int).fdiv (x : Nat)))) (evd_cb (evda_cons (by walk_at "ev") (evda_cons (evd_op (evd_cb (ds := [.list ((en.map (fun (n : Nat) => (n : Int))).map .int)]) (evda_cons (evd_is (d := .list (en.map intN)) (by walk_at "ev") (by rw [ints_nat])) evda_nil) (rc_min (List.mem_map.mpr ⟨m, hm, rfl⟩) fun y hy => ?_)) (by walk_at "ev") (rd_div x0 px')) evda_nil)) rc_max2) ?_) fun z => nomatch z) fun v H3 e3 dv => rt _ v H3 (by omega) ?_ e3 dv
    · obtain ⟨n, hn, rfl⟩ := List.mem_map.mp hy
      have := hml n hn
      omega
    · rw [fdivN]
      congr 1
      omega
    · by_cases h1 : m / x ≤ 1
      · left; omega
      · right
        rw [show max 1 (m / x) = m / x by omega]
        have hmul : m / x * x ≤ m := Nat.div_mul_le_self m x
        exact ⟨by omega, hdv.1, hdv.2, fun s k r h => Nat.le_trans hmul (mle X (.inl rfl) s k r h), fun s k r h => Nat.le_trans hmul (mle Y (.inr rfl) s k r h)⟩
  · refine s_ret K (d := .int (1 : Nat)) (evd_if (b := false) (et_is (et_and (a := decide ((x : Int).fmod (fstep X.1 X.2 : Nat) = 0)) (b := decide ((x : Int).fmod (fstep Y.1 Y.2 : Nat) = 0)) (by walk_at "et") fun _ => by walk_at "et") ?_) (fun z => nomatch z) fun _ => evd_is (d := .int 1) (by walk_at "ev") rfl) fun v H3 e3 dv => rt _ v H3 (by decide) (.inl rfl) e3 dv
    rw [g1, g2]
    rw [Bool.eq_false_iff]
    intro z
    simp only [Bool.and_eq_true, decide_eq_true_eq] at z
    exact hdv ⟨Nat.dvd_of_mod_eq_zero (by omega), Nat.dvd_of_mod_eq_zero (by omega)⟩
end Bw
end
section
set_option Elab.async false
set_option linter.all false
set_option maxRecDepth 100000
set_option maxHeartbeats 4000000
namespace Bw
open PySem PySem.Spec PyProof.Rows L2 Bfb
local macro_rules | `(tactic| walk_at "ex") => `(tactic| first
  | assumption
  | exact Ex.refl _
  | (refine Ex.trans ?_ (by assumption); walk_at "ex"))
local macro_rules | `(tactic| walk_at "om") => `(tactic| first | omega | assumption | (left; constructor <;> omega) | (right; constructor <;> omega) | decide)
local macro_rules | `(tactic| walk_at "ln") => `(tactic| first | decide | (simp only [List.length_cons, List.length_nil, List.length_append, List.length_map]; omega))
local macro_rules | `(tactic| walk_at "rd") => `(tactic| first
  | with_reducible exact rd_plus
  | with_reducible exact rd_sub
  | with_reducible exact rd_lt
  | with_reducible exact rd_le
  | with_reducible exact rd_gt
  | with_reducible exact rd_ge
  | with_reducible exact rd_eqI
  | with_reducible exact rd_neI
  | ((with_reducible apply rd_eqD); rfl; rfl)
  | ((with_reducible apply rd_neD); rfl; rfl)
  | ((with_reducible apply rd_mul); walk_at "om")
  | ((with_reducible apply rd_div); walk_at "om"; walk_at "om")
  | ((with_reducible apply rd_mod); walk_at "om")
  | ((with_reducible apply rd_divW); walk_at "om"; walk_at "om")
  | ((with_reducible apply rd_ixT); rfl)
  | ((with_reducible apply rd_ixL); rfl)
  | with_reducible exact rd_isNi
  | with_reducible exact rd_isNn
  | with_reducible exact rd_isNt
  | with_reducible exact rd_notNn)
local macro_rules | `(tactic| walk_at "ev") => `(tactic| first
  | with_reducible exact evd_int
  | ((with_reducible apply evd_varI); rfl)
  | ((with_reducible apply evd_varB); rfl)
  | ((with_reducible apply evd_var); rfl; assumption; walk_at "ex")
  | with_reducible exact evd_bl
  | with_reducible exact evd_non
  | with_reducible exact evd_str
  | ((with_reducible apply evd_op); walk_at "ev"; walk_at "ev"; walk_at "rd")
  | ((with_reducible apply evd_tup); walk_at "ea"; walk_at "ln")
  | ((with_reducible apply evd_lst); walk_at "ea"; walk_at "ln")
  | ((with_reducible apply evd_isInt); walk_at "ev")
  | ((with_reducible apply evd_isBool); walk_at "ev")
  | ((with_reducible apply evd_isTuple); walk_at "ev")
  | ((with_reducible apply evd_cb); walk_at "ea"; walk_at "rc")
  | with_reducible exact evd_neg1
  | ((with_reducible apply evd_notV); walk_at "ev")
  | ((with_reducible apply evd_call); walk_at "ea"; assumption))
local macro_rules | `(tactic| walk_at "ea") => `(tactic| first
  | with_reducible exact evda_nil
  | ((with_reducible apply evda_cons); walk_at "ev"; walk_at "ea")
  | ((with_reducible apply evda_starT); walk_at "ev"; walk_at "ea")
  | ((with_reducible apply evda_starL); walk_at "ev"; walk_at "ea"))
local macro_rules | `(tactic| walk_at "rc") => `(tactic| first
  | with_reducible exact rc_len
  | with_reducible exact rc_lenT
  | with_reducible exact rc_tupL
  | with_reducible exact rc_tupT
  | with_reducible exact rc_listL
  | with_reducible exact rc_listT
  | with_reducible exact rc_min2
  | with_reducible exact rc_max2
  | with_reducible exact rc_int1
  | with_reducible exact rc_abs
  | with_reducible exact rc_all
  | with_reducible exact rc_sum)
local macro_rules | `(tactic| walk_at "et") => `(tactic| first
  | ((with_reducible apply et_test (K := ‹PySem.W.Frag›)); walk_at "ev")
  | ((with_reducible apply et_B (K := ‹PySem.W.Frag›)); walk_at "ev")
  | ((with_reducible apply et_not); walk_at "et"))

variable {P : Program} {w : World} {K : PySem.W.Frag} {mg : Str → Option Value} {base : Heap}
theorem at_last {α : Type} {ds : List α} {d : α} (h : ds.getLast? = some d) : atI ds (-1) = some d ∧ ixN ds.length (-1) = some (ds.length - 1) := by
  have hp : 0 < ds.length := by
    cases ds with
    | nil => cases h
    | cons a l => exact Nat.succ_pos _
  have e : ixN ds.length (-1) = some (ds.length - 1) := by
    unfold ixN
    rw [if_neg (by omega), if_pos (by omega)]
    congr 1
    omega
  refine ⟨?_, e⟩
  unfold atI
  rw [e, Option.bind_some, ← List.getLast?_eq_getElem?]
  exact h
theorem set_last {α : Type} : ∀ {ds : List α} {d z : α}, ds.getLast? = some z → ds.set (ds.length - 1) d = ds.dropLast ++ [d]
  | [a], d, z, _ => rfl
  | a :: b :: l, d, z, h => by
    have ih := set_last (ds := b :: l) (d := d) (z := z) (by rw [List.getLast?_cons_cons] at h; exact h)
    show (a :: b :: l).set (l.length + 1) d = a :: ((b :: l).dropLast ++ [d])
    rw [List.set_cons_succ]
    congr 1
theorem runs_last {acc : Runs} {s t : Nat} (h : acc.getLast? = some (s, t)) : (acc.map runD).getLast? = some (runD (s, t)) := by
  rw [List.getLast?_map, h]; rfl
theorem noR (r : Runs) : noLs (r.map runD) = true := noLs_all fun d hd => by obtain ⟨p, _, rfl⟩ := List.mem_map.mp hd; rfl
theorem noRow (R : Bfb.Row) : noL (rowD R) = true := by
  show (noLs (R.1.map runD) && (true && true)) = true
  rw [noR]; rfl
theorem push_len (acc : Runs) (s t : Nat) : (pushR acc s t).length ≤ acc.length + 1 := by
  unfold pushR
  split
  · split
    · rw [List.length_append, List.length_dropLast, List.length_singleton]; omega
    · rw [List.length_append]; exact Nat.le_refl _
  · exact Nat.succ_le_succ (Nat.zero_le _)
theorem runD_inj {p q : Nat × Nat} (h : runD p = runD q) : p = q := by
  obtain ⟨a, b⟩ := p
  obtain ⟨c, d⟩ := q
  have q : (a : Int) = c ∧ (b : Int) = d := by simpa [runD] using h
  rw [show a = c by omega, show b = d by omega]
theorem runs_inj : ∀ {r s : Runs}, r.map runD = s.map runD → r = s
  | [], [], _ => rfl
  | [], _ :: _, h => by simp at h
  | _ :: _, [], h => by simp at h
  | p :: r, q :: s, h => by
    rw [List.map_cons, List.map_cons] at h
    injection h with h1 h2
    rw [runD_inj h1, runs_inj h2]
theorem rowD_inj {R S : Bfb.Row} (h : rowD R = rowD S) : R = S := by
  obtain ⟨r, e⟩ := R
  obtain ⟨s, f⟩ := S
  have q : r.map runD = s.map runD ∧ (e : Int) = f := by simpa [rowD, runsD] using h
  rw [runs_inj q.1, show e = f by omega]
section
variable {σ : L2.St} {H : Hp} {D : Ends} {tz : TS} {tt : TT} {tv ta : TE} {p : Addr} {acc : Runs} {x t i : Nat} {c : Bool}
/-- is the last run's step x? -/
theorem et_last {tx : TE} (o : Own K H p (acc.map runD)) (hv : σ[i]? = some (some (.ref p))) (hx : ∀ H1, Ex H H1 → EvD K tx σ H1 (.int (x : Nat))) : ∃ c, EvT (tAnd (tTest (tOp (rI0 fun i j => V.bl (decide (j < i)))
              (tCB (fun xs H Q => ∃ p ys, xs = [V.ref p] ∧ (SqL K H p ys ∨ SqT K H p ys) ∧ Q (V.int ↑ys.length) H) (tCons (tVar i) tNil)) (tC (V.int 0))))
          (tTest (tOp (rEqD K) (tOp (rIx K) (tOp (rIx K) (tVar i) (tUn (rU fun i => V.int (-i)) (tC (V.int 1)))) (tC (V.int 0))) tx))) σ H c ∧ (c = true ↔ ∃ t0, acc.getLast? = some (x, t0)) := by
  have dp := o.dp
  cases hl : acc.getLast? with
  | none =>
    have : acc = [] := List.getLast?_eq_none_iff.mp hl
    subst this
    exact ⟨false, et_is (et_and (a := false) (b := true) (et_test (evd_op (evd_cb (evda_cons (evd_var hv dp (Ex.refl _)) evda_nil) rc_len) evd_int rd_gt)) fun z => nomatch z) rfl, by simp⟩
  | some q =>
    obtain ⟨s0, t0⟩ := q
    have hne : acc ≠ [] := fun z => by rw [z] at hl; cases hl
    have hpos : 0 < acc.length := List.length_pos_iff.mpr hne
    refine ⟨true && decide ((s0 : Int) = (x : Int)), et_and (et_is (et_test (evd_op (evd_cb (evda_cons (evd_var hv dp (Ex.refl _)) evda_nil) rc_len) evd_int rd_gt)) (by rw [List.length_map]; simpa using hpos)) fun _ =>
      et_test (evd_op (evd_op (evd_op (evd_var hv dp (Ex.refl _)) evd_neg1 (rd_ixL (at_last (runs_last hl)).1)) evd_int (rd_ixT (f := .int (s0 : Nat)) rfl)) (hx H (Ex.refl _)) rd_eqI), ?_⟩
    rw [Bool.true_and, decide_eq_true_eq]
    constructor
    · intro h; exact ⟨t0, by rw [show s0 = x by omega]⟩
    · rintro ⟨t1, h⟩
      cases h
      rfl
theorem s_push (o : Own K H p (acc.map runD)) (hv : σ[i]? = some (some (.ref p))) (hz : acc.length < 100000) (hc : EvT tt σ H c) (hcc : c = true ↔ ∃ t0, acc.getLast? = some (x, t0))
    (hput : ∀ t0, acc.getLast? = some (x, t0) → ∀ H1, Ex H H1 → EvD K tv σ H1 (runD (x, t0 + t))) (happ : ∀ H1, Ex H H1 → EvD K ta σ H1 (runD (x, t))) (k : ∀ H1, Bts [p] H H1 → Own K H1 p ((pushR acc x t).map runD) → D.nx σ H1) :
    tIfS tt (tAsg tv (gSub (tVar i) (tUn (rU fun i => V.int (-i)) (tC (V.int 1))) L2.rSetL)) (tDrop (tBM K "list" rAppend (tVar i) (tCons ta tNil))) D σ H := by
  refine s_if hc (fun h H1 e1 => ?_) fun h H1 e1 => ?_
  · obtain ⟨t0, hl⟩ := hcc.mp h
    have hl' := runs_last hl
    refine s_put K (o.mono e1) hv (noR _) (d := runD (x, t0 + t)) rfl (hput t0 hl H1 e1) evd_neg1 (at_last hl').2 fun H2 b2 o2 => k H2 ((Bts.of e1).trans b2) ?_
    rw [set_last hl', ← List.map_dropLast] at o2
    have : pushR acc x t = acc.dropLast ++ [(x, t0 + t)] := by
      unfold pushR
      rw [hl]
      simp
    rw [this, List.map_append]
    exact o2
  · refine s_app K (o.mono e1) hv (noR _) (d := runD (x, t)) rfl (by rw [List.length_map]; exact hz) (happ H1 e1) fun H2 b2 o2 => k H2 ((Bts.of e1).trans b2) ?_
    have : pushR acc x t = acc ++ [(x, t)] := by
      unfold pushR
      cases hl : acc.getLast? with
      | none => rw [List.getLast?_eq_none_iff.mp hl]; rfl
      | some q =>
        obtain ⟨s0, t0⟩ := q
        have : s0 ≠ x := fun z => by rw [hcc.mpr ⟨t0, by rw [hl, z]⟩] at h; cases h
        simp [this]
    rw [this, List.map_append]
    exact o2
theorem q_push (o : Own K H p (acc.map runD)) (hv : σ[i]? = some (some (.ref p))) (hz : acc.length < 100000) (hc : EvT tt σ H c) (hcc : c = true ↔ ∃ t0, acc.getLast? = some (x, t0))
    (hput : ∀ t0, acc.getLast? = some (x, t0) → ∀ H1, Ex H H1 → EvD K tv σ H1 (runD (x, t0 + t))) (happ : ∀ H1, Ex H H1 → EvD K ta σ H1 (runD (x, t))) (k : ∀ H1, Bts [p] H H1 → Own K H1 p ((pushR acc x t).map runD) → tz D σ H1) :
    tSeq (tIfS tt (tAsg tv (gSub (tVar i) (tUn (rU fun i => V.int (-i)) (tC (V.int 1))) L2.rSetL)) (tDrop (tBM K "list" rAppend (tVar i) (tCons ta tNil)))) tz D σ H := s_push (D := { D with nx := tz D }) o hv hz hc hcc hput happ k
end
end Bw
end
section
set_option Elab.async false
set_option linter.all false
set_option maxRecDepth 100000
set_option maxHeartbeats 4000000
namespace Bw
open PySem PySem.Spec PyProof.Rows L2 Bfb
local macro_rules | `(tactic| walk_at "ex") => `(tactic| first
  | assumption
  | exact Ex.refl _
  | (refine Ex.trans ?_ (by assumption); walk_at "ex"))
local macro_rules | `(tactic| walk_at "om") => `(tactic| first | omega | assumption | (left; constructor <;> omega) | (right; constructor <;> omega) | decide)
local macro_rules | `(tactic| walk_at "ln") => `(tactic| first | decide | (simp only [List.length_cons, List.length_nil, List.length_append, List.length_map]; omega))
local macro_rules | `(tactic| walk_at "rd") => `(tactic| first
  | with_reducible exact rd_plus
  | with_reducible exact rd_sub
  | with_reducible exact rd_lt
  | with_reducible exact rd_le
  | with_reducible exact rd_gt
  | with_reducible exact rd_ge
  | with_reducible exact rd_eqI
  | with_reducible exact rd_neI
  | ((with_reducible apply rd_eqD); rfl; rfl)
  | ((with_reducible apply rd_neD); rfl; rfl)
  | ((with_reducible apply rd_mul); walk_at "om")
  | ((with_reducible apply rd_div); walk_at "om"; walk_at "om")
  | ((with_reducible apply rd_mod); walk_at "om")
  | ((with_reducible apply rd_divW); walk_at "om"; walk_at "om")
  | ((with_reducible apply rd_ixT); rfl)
  | ((with_reducible apply rd_ixL); rfl)
  | with_reducible exact rd_isNi
  | with_reducible exact rd_isNn
  | with_reducible exact rd_isNt
  | with_reducible exact rd_notNn)
local macro_rules | `(tactic| walk_at "ev") => `(tactic| first
  | with_reducible exact evd_int
  | ((with_reducible apply evd_varI); rfl)
  | ((with_reducible apply evd_varB); rfl)
  | ((with_reducible apply evd_var); rfl; assumption; walk_at "ex")
  | with_reducible exact evd_bl
  | with_reducible exact evd_non
  | with_reducible exact evd_str
  | ((with_reducible apply evd_op); walk_at "ev"; walk_at "ev"; walk_at "rd")
  | ((with_reducible apply evd_tup); walk_at "ea"; walk_at "ln")
  | ((with_reducible apply evd_lst); walk_at "ea"; walk_at "ln")
  | ((with_reducible apply evd_isInt); walk_at "ev")
  | ((with_reducible apply evd_isBool); walk_at "ev")
  | ((with_reducible apply evd_isTuple); walk_at "ev")
  | ((with_reducible apply evd_cb); walk_at "ea"; walk_at "rc")
  | with_reducible exact evd_neg1
  | ((with_reducible apply evd_notV); walk_at "ev")
  | ((with_reducible apply evd_call); walk_at "ea"; assumption))
local macro_rules | `(tactic| walk_at "ea") => `(tactic| first
  | with_reducible exact evda_nil
  | ((with_reducible apply evda_cons); walk_at "ev"; walk_at "ea")
  | ((with_reducible apply evda_starT); walk_at "ev"; walk_at "ea")
  | ((with_reducible apply evda_starL); walk_at "ev"; walk_at "ea"))
local macro_rules | `(tactic| walk_at "rc") => `(tactic| first
  | with_reducible exact rc_len
  | with_reducible exact rc_lenT
  | with_reducible exact rc_tupL
  | with_reducible exact rc_tupT
  | with_reducible exact rc_listL
  | with_reducible exact rc_listT
  | with_reducible exact rc_min2
  | with_reducible exact rc_max2
  | with_reducible exact rc_int1
  | with_reducible exact rc_abs
  | with_reducible exact rc_all
  | with_reducible exact rc_sum)
local macro_rules | `(tactic| walk_at "et") => `(tactic| first
  | ((with_reducible apply et_test (K := ‹PySem.W.Frag›)); walk_at "ev")
  | ((with_reducible apply et_B (K := ‹PySem.W.Frag›)); walk_at "ev")
  | ((with_reducible apply et_not); walk_at "et"))

variable {P : Program} {w : World} {K : PySem.W.Frag} {mg : Str → Option Value} {base : Heap}
abbrev s_both : Stmt := topS 29
abbrev N_both : List Str := ["one", "other", "steps", "left", "rest", "step", "times", "end"]
theorem sc_both : FnScope N_both ["one", "other"] (defScope s_both) := ⟨rfl, rfl, rfl, by decide +kernel, rfl, by decide +kernel, by decide +kernel⟩
def R_both (ds : List PyData) (d : PyData) : Prop := ∃ X Y : Bfb.Row, Ok X ∧ Ok Y ∧ Nat.lcm X.2 Y.2 < 65536 ∧ ds = [rowD X, rowD Y] ∧ d = rowD (bothRow X Y)
theorem d_both (F : Fd K mg "both" s_both) (B : Nm mg) (D_check_rows : Df P w K mg base "check_rows" 5 ["one", "other"] (spP K R_rows)) (D_common_multiple : Df P w K mg base "common_multiple" 2 ["one", "other"] (spP K R_multiple)) (D_first_common : Df P w K mg base "first_common" 4 ["one", "other"] (spA K pre_common R_common)) (D_times_at_once : Df P w K mg base "times_at_once" 2 ["one", "other", "step"] (spA K pre_times R_times)) (D_behind : Df P w K mg base "behind" 1 ["row", "count"] (spP K R_behind)) : Df P w K mg base "both" 6 ["one", "other"] (spP K R_both) := by
  refine d_pure F sc_both (fun _ _ _ _ _ _ us hl => match us, hl with | [_, _], _ => rfl) (by rintro _ _ ⟨X, Y, hX, hY, hL, rfl, rfl⟩; rfl) fun f cdv A outer s H vs ds d Q E hr hds hR k => ?_
  have hu64 := hr.units
  have hu65 := room65 hr
  have hu1 := room1 hr
  obtain ⟨X, Y, hX, hY, hL, rfl, rfl⟩ := hR
  obtain ⟨v0, v1, rfl, h0, h1⟩ := dpa2 hds
  refine ⟨_, (pss_cons (ps_expr (pe_df D_check_rows (hr.mono (by decide)) (by rfl) (pa_cons (pv 0) (pa_cons (pv 1) pa_nil))))
      (pss_cons (ps_if (PW.pt (pw_or (pt_cmpR (op_eqK (K := K) hu64 rfl) (pe_ix (ix_K (K := K) rfl) (pv 0) pe_int (fun _ _ => rfl)) pe_int (nomark _)) (pw_or1 (pt_cmpR (op_eqK (K := K) hu64 rfl) (pe_ix (ix_K (K := K) rfl) (pv 1) pe_int (fun _ _ => rfl)) pe_int (nomark _))))) (pss_one (ps_ret (pe_tup (pa_cons (pe_tup pa_nil) (pa_cons pe_int pa_nil))))) pss_nil)
      (pss_cons (ps_par3 (i := 2) (j := 3) (l := 4) (by rfl) sc_both.nd rfl rfl rfl (by decide) (by decide) (by decide) rfl rfl rfl (pa_cons (pe_lst pa_nil) (pa_cons (pv 0) (pa_cons (pv 1) pa_nil))) (by rfl))
      (pss_cons (ps_while PassesOwn.never (pt_cmpR op_gt (pe_op (op_plusK (K := K) rfl) (pe_callB (call_lenK (K := K) rfl) (by rfl) B.len PySem.boot_len (pa_cons (pe_ix (ix_K (K := K) rfl) (pv 3) pe_int (fun _ _ => rfl)) pa_nil)) (pe_callB (call_lenK (K := K) rfl) (by rfl) B.len PySem.boot_len (pa_cons (pe_ix (ix_K (K := K) rfl) (pv 4) pe_int (fun _ _ => rfl)) pa_nil))) pe_int (nomark _)) (pss_cons (ps_set (i := 5) sc_both.nd rfl (.inl rfl) (pe_df D_first_common (hr.mono (by decide)) (by rfl) (pa_cons (pv 3) (pa_cons (pv 4) pa_nil))))
      (pss_cons (ps_set (i := 6) sc_both.nd rfl (.inl rfl) (pe_df D_times_at_once (hr.mono (by decide)) (by rfl) (pa_cons (pv 3) (pa_cons (pv 4) (pa_cons (pv 5) pa_nil)))))
      (pss_cons (ps_if (PW.pt (pw_and (pt_cmpR op_gt (pe_callB (call_lenK (K := K) rfl) (by rfl) B.len PySem.boot_len (pa_cons (pv 2) pa_nil)) pe_int (nomark _)) (pw_and1 (pt_cmpR (op_eqK (K := K) hu64 rfl) (pe_ix (ix_K (K := K) rfl) (pe_ix (ix_K (K := K) rfl) (pv 2) (pe_un un_neg pe_int) (fun _ _ => rfl)) pe_int (fun _ _ => rfl)) (pv 5) (nomark _))))) (pss_one (ps_asg (pe_tup (pa_cons (pv 5) (pa_cons (pe_op (op_plusK (K := K) rfl) (pe_ix (ix_K (K := K) rfl) (pe_ix (ix_K (K := K) rfl) (pv 2) (pe_un un_neg pe_int) (fun _ _ => rfl)) pe_int (fun _ _ => rfl)) (pv 6)) pa_nil))) (pg_sub (pv 2) (pe_un un_neg pe_int) set_list))) (pss_one (ps_expr (pe_bm PySem.F.plainAttrs_list PySem.F.slot_list_append PySem.F.type_list_append mt_append (pv 2) (pa_cons (pe_tup (pa_cons (pv 5) (pa_cons (pv 6) pa_nil))) pa_nil)))))
      (pss_one (ps_par (i := 3) (j := 4) (by rfl) sc_both.nd rfl rfl (by decide) rfl rfl (pa_cons (pe_df D_behind (hr.mono (by decide)) (by rfl) (pa_cons (pv 3) (pa_cons (pe_op op_mul (pv 5) (pv 6)) pa_nil))) (pa_cons (pe_df D_behind (hr.mono (by decide)) (by rfl) (pa_cons (pv 4) (pa_cons (pe_op op_mul (pv 5) (pv 6)) pa_nil))) pa_nil)) (by rfl)))))))
      (pss_cons (ps_set (i := 7) sc_both.nd rfl (.inl rfl) (pe_df D_common_multiple (hr.mono (by decide)) (by rfl) (pa_cons (pe_ix (ix_K (K := K) rfl) (pv 3) pe_int (fun _ _ => rfl)) (pa_cons (pe_ix (ix_K (K := K) rfl) (pv 4) pe_int (fun _ _ => rfl)) pa_nil))))
      (pss_cons (ps_if (PW.pt (pw_and (pt_cmpR op_gt (pe_callB (call_lenK (K := K) rfl) (by rfl) B.len PySem.boot_len (pa_cons (pv 2) pa_nil)) pe_int (nomark _)) (pw_and1 (pt_cmpR (op_eqK (K := K) hu64 rfl) (pe_ix (ix_K (K := K) rfl) (pe_ix (ix_K (K := K) rfl) (pv 2) (pe_un un_neg pe_int) (fun _ _ => rfl)) pe_int (fun _ _ => rfl)) (pv 7) (nomark _))))) (pss_one (ps_expr (pe_bm0 PySem.F.plainAttrs_list PySem.F.slot_list_pop PySem.F.type_list_pop mt_pop (pv 2)))) pss_nil)
      (pss_one (ps_ret (pe_tup (pa_cons (pe_callTy call_tuple_of (by rfl) B.tuple (by decide +kernel) (pa_cons (pv 2) pa_nil)) (pa_cons (pv 7) pa_nil))))))))))), ?_⟩
  try dsimp only [cxOf, Cx.nox, Cx.wish]
  obtain ⟨r1, e1'⟩ := X
  obtain ⟨r2, e2'⟩ := Y
  have fX : far r1 < 65536 := hX.far
  have fY : far r2 < 65536 := hY.far
  have nX : e1' < 65536 := hX.en
  have nY : e2' < 65536 := hY.en
  have hL : Nat.lcm e1' e2' < 65536 := hL
  have h0 : Dp K H v0 (.tuple [.tuple (r1.map runD), .int (e1' : Nat)]) := h0
  have h1 : Dp K H v1 (.tuple [.tuple (r2.map runD), .int (e2' : Nat)]) := h1
  refine q_drop K (d := .none) (evd_call (ds := [rowD (r1, e1'), rowD (r2, e2')]) (by walk_at "ea") ⟨(r1, e1'), (r2, e2'), hX, hY, rfl, rfl⟩) fun H1 e1 => ?_
  refine q_when (b := decide ((e1' : Int) = 0) || decide ((e2' : Int) = 0)) (et_or (by walk_at "et") fun _ => by walk_at "et") (fun hz H2 e2 => ?_) (fun hz H2 e2 => ?_)
  · have hz : e1' = 0 ∨ e2' = 0 := by
      rcases Bool.or_eq_true _ _ |>.mp hz with h | h
      · left; have := of_decide_eq_true h; omega
      · right; have := of_decide_eq_true h; omega
    have eb : bothRow (r1, e1') (r2, e2') = ([], 0) := by
      refine (bothRow_eq (M := ([], 0)) hX.v hY.v ⟨trivial, fun n => ?_⟩).symm
      show InR ([], 0) n ↔ _
      rw [in0]
      constructor
      · rintro rfl
        exact ⟨(valid_closed hX.v).zero, (valid_closed hY.v).zero⟩
      · rintro ⟨a, b⟩
        rcases hz with h | h
        · have := flat0 hX.v h
          rw [this] at a
          exact (in0 n).mp a
        · have := flat0 hY.v h
          rw [this] at b
          exact (in0 n).mp b
    exact s_ret K (d := rowD (bothRow (r1, e1') (r2, e2'))) (evd_is (d := .tuple [.tuple [], .int 0]) (by walk_at "ev") (by rw [eb]; rfl)) fun v H3 e3 dv => k v H3 (by walk_at "ex") dv
  have hz : 0 < e1' ∧ 0 < e2' := by
    have := Bool.or_eq_false_iff.mp hz
    have h1 := of_decide_eq_false this.1
    have h2 := of_decide_eq_false this.2
    omega
  refine q_par3NDD K (d := rowD (r1, e1')) (e := rowD (r2, e2')) (show EvD K _ _ _ (.tuple [.tuple (r1.map runD), .int (e1' : Nat)]) from by walk_at "ev") (show EvD K _ _ _ (.tuple [.tuple (r2.map runD), .int (e2' : Nat)]) from by walk_at "ev") fun p v3 v4 H3 e3 np op d3 d4 => ?_
  have n1 := nsteps_far hX.v
  have n2 := nsteps_far hY.v
  simp only at n1 n2
  refine q_while (fun m σ' H' => ∃ (acc rl rr : Runs) (vl vr : V) (x5 x6 : Option V), nsteps rl + nsteps rr = m ∧ σ' = [some v0, some v1, some (.ref p), some vl, some vr, x5, x6, none] ∧ Bts [p] H3 H' ∧ Own K H' p (acc.map runD) ∧ Dp K H' vl (rowD (rl, e1')) ∧ Dp K H' vr (rowD (rr, e2')) ∧
    Ok (rl, e1') ∧ Ok (rr, e2') ∧ acc.length + nsteps rl + nsteps rr ≤ 66000 ∧ BInv r1 e1' r2 e2' acc rl rr) _ ⟨[], r1, r2, v3, v4, none, none, rfl, rfl, Bts.refl, op, d3, d4, hX, hY, by simp only [List.length_nil]; omega, binv_start hX.v hY.v⟩ ?_
  rintro m σ' H' ⟨acc, rl, rr, vl, vr, x5, x6, hm, rfl, b, o, dl, dr, hl, hr', hn, I⟩
  have dl : Dp K H' vl (.tuple [.tuple (rl.map runD), .int (e1' : Nat)]) := dl
  have dr : Dp K H' vr (.tuple [.tuple (rr.map runD), .int (e2' : Nat)]) := dr
  have lt1 : ((0 : Int) < ((rl.map runD).length : Int) + ((rr.map runD).length : Int)) ↔ 0 < rl.length + rr.length := by rw [List.length_map, List.length_map]; omega
  refine ⟨decide (0 < rl.length + rr.length), et_is (a := decide ((0 : Int) < ((rl.map runD).length : Int) + ((rr.map runD).length : Int))) (by walk_at "et") (decide_eq_decide.mpr lt1), fun h H4 e4 => ?_, fun h H4 e4 => ?_⟩
  · have h := of_decide_eq_true h
    refine q_setA K (ds := [rowD (rl, e1'), rowD (rr, e2')]) (evda_cons (d := .tuple [.tuple (rl.map runD), .int (e1' : Nat)]) (by walk_at "ev") (evda_cons (d := .tuple [.tuple (rr.map runD), .int (e2' : Nat)]) (by walk_at "ev") evda_nil)) ⟨(rl, e1'), (rr, e2'), hl, hr', hz.1, hz.2, rfl⟩ fun d v5 H5 hR e5 d5 => ?_
    obtain ⟨X', Y', x, eq, rfl, hx⟩ := hR
    obtain ⟨qa, qb⟩ : rowD (rl, e1') = rowD X' ∧ rowD (rr, e2') = rowD Y' := by
      injection eq with h1 h2
      injection h2 with h2 h3
      exact ⟨h1, h2⟩
    have qa := rowD_inj qa
    have qb := rowD_inj qb
    subst qa qb
    cases dp_int d5
    have xle := least_le hl.v hr'.v hz.1 hz.2 hx
    have fl := hl.far
    have fr := hr'.far
    simp only at xle fl fr
    have x29 : x < 2 ^ 29 := by
      have : (2 : Nat) ^ 29 = 536870912 := by decide
      omega
    have hne : rl ≠ [] ∨ rr ≠ [] := by
      rcases rl with _ | ⟨q, rl⟩
      · right; intro z; subst z; simp at h
      · left; simp
    refine q_setA K (ds := [rowD (rl, e1'), rowD (rr, e2'), .int (x : Nat)]) (evda_cons (d := .tuple [.tuple (rl.map runD), .int (e1' : Nat)]) (by walk_at "ev") (evda_cons (d := .tuple [.tuple (rr.map runD), .int (e2' : Nat)]) (by walk_at "ev") (by walk_at "ea"))) ⟨(rl, e1'), (rr, e2'), x, hl, hr', hz.1, hz.2, hx.1, x29, hne, rfl⟩ fun d v6 H6 hR e6 d6 => ?_
    obtain ⟨X', Y', x', t, eq, rfl, ht, hT⟩ := hR
    obtain ⟨qa, qb, qx⟩ : rowD (rl, e1') = rowD X' ∧ rowD (rr, e2') = rowD Y' ∧ (x : Int) = x' := by
      injection eq with h1 h2
      injection h2 with h2 h3
      injection h3 with h3 h4
      injection h3 with h3
      exact ⟨h1, h2, h3⟩
    have qa := rowD_inj qa
    have qb := rowD_inj qb
    have qx : x = x' := by omega
    subst qa qb qx
    cases dp_int d6
    obtain ⟨I', w1, w2, c0⟩ := binv_step I hx hT
    have o6 := o.mono (e4.trans (e5.trans e6))
    have p6 := o6.dp
    obtain ⟨c, hc, hcc⟩ := et_last (x := x) (i := 2) (σ := [some v0, some v1, some (.ref p), some vl, some vr, some (.int (x : Nat)), some (.int (t : Nat)), none]) (tx := tVar 5) o6 rfl (fun H1 e => by walk_at "ev")
    refine q_push (t := t) o6 rfl (by omega) hc hcc (fun t0 hl0 H7 e7 => ?_) (fun H7 e7 => ?_) fun H7 b7 o7 => ?_
    · have a7 := (at_last (runs_last hl0)).1
      exact evd_is (d := .tuple [.int (x : Nat), .int ((t0 : Int) + (t : Int))]) (evd_tup (evda_cons (by walk_at "ev") (evda_cons (evd_op (evd_op (evd_op (by walk_at "ev") evd_neg1 (rd_ixL a7)) (by walk_at "ev") (rd_ixT (f := .int (t0 : Nat)) rfl)) (by walk_at "ev") (by walk_at "rd")) evda_nil)) (by walk_at "ln")) rfl
    · exact show EvD K _ _ _ (.tuple [.int (x : Nat), .int (t : Nat)]) from by walk_at "ev"
    have bb := b.trans ((Bts.of (show Ex H' H6 by walk_at "ex")).trans b7)
    have dl7 : Dp K H7 vl (.tuple [.tuple (rl.map runD), .int (e1' : Nat)]) := dp_bts b7 (lsts1 o6) (noRow (rl, e1')) (dp_ex (by walk_at "ex") dl)
    have dr7 : Dp K H7 vr (.tuple [.tuple (rr.map runD), .int (e2' : Nat)]) := dp_bts b7 (lsts1 o6) (noRow (rr, e2')) (dp_ex (by walk_at "ex") dr)
    refine s_par K (d := rowD (behindR rl (x * t), e1')) (e := rowD (behindR rr (x * t), e2')) (evda_cons (evd_call (ds := [rowD (rl, e1'), .int ((x * t : Nat) : Int)]) (evda_cons (d := .tuple [.tuple (rl.map runD), .int (e1' : Nat)]) (by walk_at "ev") (evda_cons (evd_is (d := .int ((x : Int) * (t : Int))) (by walk_at "ev") (by rw [Int.natCast_mul])) evda_nil)) ⟨(rl, e1'), x * t, hl, rfl, rfl⟩)
      (evda_cons (evd_call (ds := [rowD (rr, e2'), .int ((x * t : Nat) : Int)]) (evda_cons (d := .tuple [.tuple (rr.map runD), .int (e2' : Nat)]) (by walk_at "ev") (evda_cons (evd_is (d := .int ((x : Int) * (t : Int))) (by walk_at "ev") (by rw [Int.natCast_mul])) evda_nil)) ⟨(rr, e2'), x * t, hr', rfl, rfl⟩) evda_nil)) fun vl' vr' H8 e8 dl8 dr8 => ?_
    have ns : nsteps (behindR rl (x * t)) + nsteps (behindR rr (x * t)) < nsteps rl + nsteps rr := by
      have l1 := behindR_le rl (x * t)
      have l2 := behindR_le rr (x * t)
      rcases hne with h | h
      · have := behindR_n (r := rl) (e := e1') hl.v w1 c0 h; omega
      · have := behindR_n (r := rr) (e := e2') hr'.v w2 c0 h; omega
    have pl := push_len acc x t
    exact ⟨_, by rw [← hm]; exact ns, pushR acc x t, _, _, vl', vr', _, _, rfl, rfl, bb.ex e8, o7.mono e8, dl8, dr8, behind_ok hl w1, behind_ok hr' w2, by omega, I'⟩
  · have h := of_decide_eq_false h
    have hl0 : rl = [] := List.length_eq_zero_iff.mp (by omega)
    have hr0 : rr = [] := List.length_eq_zero_iff.mp (by omega)
    subst hl0 hr0
    have row := binv_end hX.v hY.v hz.1 hz.2 I
    have eb : (popEnd acc (Nat.lcm e1' e2'), Nat.lcm e1' e2') = bothRow (r1, e1') (r2, e2') := bothRow_eq hX.v hY.v row
    refine q_set K (d := .int (Nat.lcm e1' e2' : Nat)) (evd_call (ds := [.int (e1' : Nat), .int (e2' : Nat)]) (by walk_at "ea") ⟨e1', e2', hz.1, by omega, by omega, rfl, rfl⟩) fun v7 H5 e5 d7 => ?_
    cases dp_int d7
    have o5 := o.mono (e4.trans e5)
    obtain ⟨c, hc, hcc⟩ := et_last (x := Nat.lcm e1' e2') (i := 2) (σ := [some v0, some v1, some (.ref p), some vl, some vr, x5, x6, some (.int (Nat.lcm e1' e2' : Nat))]) (tx := tVar 7) o5 rfl (fun H1 e => by walk_at "ev")
    have exx : ∀ {H7}, Bts [p] H5 H7 → Ex H H7 := fun b7 => ex_bts (e1.trans (e2.trans e3)) (b.trans ((Bts.of (e4.trans e5)).trans b7)) (fresh_ex (e1.trans e2) np)
    have fin : ∀ H7, Bts [p] H5 H7 → Own K H7 p ((popEnd acc (Nat.lcm e1' e2')).map runD) → ∀ v H8, Ex H7 H8 → Dp K H8 v (rowD (popEnd acc (Nat.lcm e1' e2'), Nat.lcm e1' e2')) → Q v H8 := fun H7 b7 o7 v H8 e8 dv => k v H8 ((exx b7).trans e8) (by rw [← eb]; exact dv)
    refine q_when hc (fun hb H6 e6 => ?_) (fun hb H6 e6 => ?_)
    · obtain ⟨t0, hl0⟩ := hcc.mp hb
      have hne : acc ≠ [] := fun z => by rw [z] at hl0; cases hl0
      refine s_pop K (o5.mono e6) rfl (noR _) (by simpa using hne) fun H7 b7 o7 => ?_
      have ep : popEnd acc (Nat.lcm e1' e2') = acc.dropLast := by
        unfold popEnd
        rw [hl0]
        simp
      rw [← List.map_dropLast, ← ep] at o7
      have p7 := o7.dp
      dsimp only
      exact s_ret K (d := rowD (popEnd acc (Nat.lcm e1' e2'), Nat.lcm e1' e2')) (show EvD K _ _ _ (.tuple [.tuple ((popEnd acc (Nat.lcm e1' e2')).map runD), .int (Nat.lcm e1' e2' : Nat)]) from by walk_at "ev") fun v H8 e8 dv => fin H7 ((Bts.of e6).trans b7) o7 v H8 e8 dv
    · have ep : popEnd acc (Nat.lcm e1' e2') = acc := by
        unfold popEnd
        cases hl0 : acc.getLast? with
        | none => rfl
        | some q =>
          obtain ⟨s0, t0⟩ := q
          have : s0 ≠ Nat.lcm e1' e2' := fun z => by rw [hcc.mpr ⟨t0, by rw [hl0, z]⟩] at hb; cases hb
          simp [this]
      have o7 := o5.mono e6
      rw [← ep] at o7
      have p7 := o7.dp
      exact s_ret K (d := rowD (popEnd acc (Nat.lcm e1' e2'), Nat.lcm e1' e2')) (show EvD K _ _ _ (.tuple [.tuple ((popEnd acc (Nat.lcm e1' e2')).map runD), .int (Nat.lcm e1' e2' : Nat)]) from by walk_at "ev") fun v H8 e8 dv => fin H6 (Bts.of e6) o7 v H8 e8 dv
end Bw
end
section
set_option Elab.async false
set_option linter.all false
set_option maxRecDepth 100000
set_option maxHeartbeats 4000000
namespace Bw
open PySem PySem.Spec PyProof.Rows L2 Bfb
local macro_rules | `(tactic| walk_at "ex") => `(tactic| first
  | assumption
  | exact Ex.refl _
  | (refine Ex.trans ?_ (by assumption); walk_at "ex"))
local macro_rules | `(tactic| walk_at "om") => `(tactic| first | omega | assumption | (left; constructor <;> omega) | (right; constructor <;> omega) | decide)
local macro_rules | `(tactic| walk_at "ln") => `(tactic| first | decide | (simp only [List.length_cons, List.length_nil, List.length_append, List.length_map]; omega))
local macro_rules | `(tactic| walk_at "rd") => `(tactic| first
  | with_reducible exact rd_plus
  | with_reducible exact rd_sub
  | with_reducible exact rd_lt
  | with_reducible exact rd_le
  | with_reducible exact rd_gt
  | with_reducible exact rd_ge
  | with_reducible exact rd_eqI
  | with_reducible exact rd_neI
  | ((with_reducible apply rd_eqD); rfl; rfl)
  | ((with_reducible apply rd_neD); rfl; rfl)
  | ((with_reducible apply rd_mul); walk_at "om")
  | ((with_reducible apply rd_div); walk_at "om"; walk_at "om")
  | ((with_reducible apply rd_mod); walk_at "om")
  | ((with_reducible apply rd_divW); walk_at "om"; walk_at "om")
  | ((with_reducible apply rd_ixT); rfl)
  | ((with_reducible apply rd_ixL); rfl)
  | with_reducible exact rd_isNi
  | with_reducible exact rd_isNn
  | with_reducible exact rd_isNt
  | with_reducible exact rd_notNn)
local macro_rules | `(tactic| walk_at "ev") => `(tactic| first
  | with_reducible exact evd_int
  | ((with_reducible apply evd_varI); rfl)
  | ((with_reducible apply evd_varB); rfl)
  | ((with_reducible apply evd_var); rfl; assumption; walk_at "ex")
  | with_reducible exact evd_bl
  | with_reducible exact evd_non
  | with_reducible exact evd_str
  | ((with_reducible apply evd_op); walk_at "ev"; walk_at "ev"; walk_at "rd")
  | ((with_reducible apply evd_tup); walk_at "ea"; walk_at "ln")
  | ((with_reducible apply evd_lst); walk_at "ea"; walk_at "ln")
  | ((with_reducible apply evd_isInt); walk_at "ev")
  | ((with_reducible apply evd_isBool); walk_at "ev")
  | ((with_reducible apply evd_isTuple); walk_at "ev")
  | ((with_reducible apply evd_cb); walk_at "ea"; walk_at "rc")
  | with_reducible exact evd_neg1
  | ((with_reducible apply evd_notV); walk_at "ev")
  | ((with_reducible apply evd_call); walk_at "ea"; assumption))
local macro_rules | `(tactic| walk_at "ea") => `(tactic| first
  | with_reducible exact evda_nil
  | ((with_reducible apply evda_cons); walk_at "ev"; walk_at "ea")
  | ((with_reducible apply evda_starT); walk_at "ev"; walk_at "ea")
  | ((with_reducible apply evda_starL); walk_at "ev"; walk_at "ea"))
local macro_rules | `(tactic| walk_at "rc") => `(tactic| first
  | with_reducible exact rc_len
  | with_reducible exact rc_lenT
  | with_reducible exact rc_tupL
  | with_reducible exact rc_tupT
  | with_reducible exact rc_listL
  | with_reducible exact rc_listT
  | with_reducible exact rc_min2
  | with_reducible exact rc_max2
  | with_reducible exact rc_int1
  | with_reducible exact rc_abs
  | with_reducible exact rc_all
  | with_reducible exact rc_sum)
local macro_rules | `(tactic| walk_at "et") => `(tactic| first
  | ((with_reducible apply et_test (K := ‹PySem.W.Frag›)); walk_at "ev")
  | ((with_reducible apply et_B (K := ‹PySem.W.Frag›)); walk_at "ev")
  | ((with_reducible apply et_not); walk_at "et"))

variable {P : Program} {w : World} {K : PySem.W.Frag} {mg : Str → Option Value} {base : Heap}
abbrev s_is_accord : Stmt := topS 33
abbrev N_is_accord : List Str := ["bodies", "value"]
theorem sc_is_accord : FnScope N_is_accord ["bodies", "value"] (defScope s_is_accord) := ⟨rfl, rfl, rfl, by decide +kernel, rfl, by decide +kernel, by decide +kernel⟩
abbrev s_check_accords : Stmt := topS 34
abbrev N_check_accords : List Str := ["bodies", "accords", "one"]
theorem sc_check_accords : FnScope N_check_accords ["bodies", "accords"] (defScope s_check_accords) := ⟨rfl, rfl, rfl, by decide +kernel, rfl, by decide +kernel, by decide +kernel⟩
abbrev s_told_counts : Stmt := topS 35
abbrev N_told_counts : List Str := ["accords", "one", "other", "first", "second", "count"]
theorem sc_told_counts : FnScope N_told_counts ["accords", "one", "other"] (defScope s_told_counts) := ⟨rfl, rfl, rfl, by decide +kernel, rfl, by decide +kernel, by decide +kernel⟩
/-- no dict within the first two levels -/
def dictFree : PyData → Bool
  | .dict _ => false
  | _ => true
theorem df_ne {x : PyData} (h : dictFree x = true) : ∀ z, x ≠ .dict z := fun z e => by rw [e] at h; cases h
def isAcc (b : Nat) : PyData → Bool
  | .tuple [p, q, c] => isIx c (60 + 1) && (isIx p b && isIx q b)
  | _ => false
def accOk : PyData → Bool
  | .tuple ds => ds.all dictFree
  | .dict _ => false
  | _ => true
def R_accord (ds : List PyData) (d : PyData) : Prop := ∃ (b : Nat) (x : PyData), accOk x = true ∧ ds = [.int b, x] ∧ d = .bool (isAcc b x)
theorem pe_globI {X : Cx} {x : Str} {i : Int} {pos : Pos} (hg : Gl X x) (h : ∃ t, X.mg x = some (.int i t)) (hd : (x == ("__debug__" : Str)) = false := by decide) : PE X (.Name x pos) (tC (.int i)) := by
  obtain ⟨t, e⟩ := h
  exact pe_glob hg e ⟨t, rfl⟩ hd
theorem ix_any {x : PyData} (h : dictFree x = true) (m : Int) : R_index [x, .int m] (.bool (isIx x m)) := ⟨x, m, df_ne h, rfl, rfl⟩
theorem d_is_accord (F : Fd K mg "is_accord" s_is_accord) (B : Nm mg) (D_is_index : Df P w K mg base "is_index" 3 ["value", "many"] (spP K R_index)) : Df P w K mg base "is_accord" 4 ["bodies", "value"] (spP K R_accord) := by
  refine d_pure F sc_is_accord (fun _ _ _ _ _ _ us hl => match us, hl with | [_, _], _ => rfl) (by rintro _ _ ⟨b, x, hx, rfl, rfl⟩; rfl) fun f cdv A outer s H vs ds d Q E hr hds hR k => ?_
  have hu64 := hr.units
  have hu65 := room65 hr
  have hu1 := room1 hr
  obtain ⟨b, x, hx, rfl, rfl⟩ := hR
  obtain ⟨v0, v1, rfl, h0, h1⟩ := dpa2 hds
  cases dp_int h0
  refine ⟨_, (pss_cons (ps_if (PW.pt (pw_or (pt_not (pt_val (pe_callB call_isi (by rfl) B.isinstance (by decide +kernel) (pa_cons (pv 1) (pa_cons (pe_bltn (v := .ty "tuple") (by rfl) B.tuple (by decide +kernel) rfl) pa_nil))))) (pw_or (pt_cmpR (op_neK (K := K) hu64 rfl) (pe_callB (call_lenK (K := K) rfl) (by rfl) B.len PySem.boot_len (pa_cons (pv 1) pa_nil)) pe_int (nomark _)) (pw_or1 (pt_not (pt_val (pe_df D_is_index (hr.mono (by decide)) (by rfl) (pa_cons (pe_ix (ix_K (K := K) rfl) (pv 1) pe_int (fun _ _ => rfl)) (pa_cons (pe_op (op_plusK (K := K) rfl) (pe_globI rfl B.mg_MOST) pe_int) pa_nil))))))))) (pss_one (ps_ret pe_bl)) pss_nil)
      (pss_one (ps_ret (pe_and (pe_df D_is_index (hr.mono (by decide)) (by rfl) (pa_cons (pe_ix (ix_K (K := K) rfl) (pv 1) pe_int (fun _ _ => rfl)) (pa_cons (pv 0) pa_nil))) (pe_one (pe_df D_is_index (hr.mono (by decide)) (by rfl) (pa_cons (pe_ix (ix_K (K := K) rfl) (pv 1) pe_int (fun _ _ => rfl)) (pa_cons (pv 0) pa_nil)))))))), ?_⟩
  try dsimp only [cxOf, Cx.nox, Cx.wish]
  by_cases hT : ∃ p q c, x = .tuple [p, q, c]
  · obtain ⟨p, q, c, rfl⟩ := hT
    obtain ⟨f1, f2, f3⟩ : dictFree p = true ∧ dictFree q = true ∧ dictFree c = true := by simpa [accOk] using hx
    have i2 : atI [p, q, c] (2 : Int) = some c := rfl
    have i0 : atI [p, q, c] (0 : Int) = some p := rfl
    have i1 : atI [p, q, c] (1 : Int) = some q := rfl
    refine q_when (b := !isIx c (60 + 1)) (et_is (et_or (a := false) (b := !isIx c (60 + 1)) (et_is (a := !kT (.tuple [p, q, c])) (et_not (et_B (by walk_at "ev"))) rfl) fun _ => et_is (et_or (a := false) (b := !isIx c (60 + 1)) (et_is (a := !decide (([p, q, c].length : Int) = 3)) (by walk_at "et") rfl) fun _ => et_not (et_B (evd_call (ds := [c, .int (60 + 1)]) (evda_cons (evd_op (by walk_at "ev") (by walk_at "ev") (rd_ixT i2)) (evda_cons (by walk_at "ev") evda_nil)) (ix_any f3 (60 + 1))))) (by rw [Bool.false_or])) (by rw [Bool.false_or])) (fun hb H1 e1 => ?_) (fun hb H1 e1 => ?_)
    · refine s_ret K (d := .bool false) (by walk_at "ev") fun v H2 e2 dv => k v H2 (by walk_at "ex") (by
        have : isAcc b (.tuple [p, q, c]) = false := by simp only [isAcc]; rw [show isIx c (60 + 1) = false by simpa using hb]; rfl
        rw [this]; exact dv)
    · refine s_ret K (d := .bool (isIx p b && isIx q b)) (evd_andV (evd_call (ds := [p, .int b]) (evda_cons (evd_op (by walk_at "ev") (by walk_at "ev") (rd_ixT i0)) (evda_cons (by walk_at "ev") evda_nil)) (ix_any f1 b)) fun _ => evd_call (ds := [q, .int b]) (evda_cons (evd_op (by walk_at "ev") (by walk_at "ev") (rd_ixT i1)) (evda_cons (by walk_at "ev") evda_nil)) (ix_any f2 b)) fun v H2 e2 dv => k v H2 (by walk_at "ex") (by
        have : isAcc b (.tuple [p, q, c]) = (isIx p b && isIx q b) := by simp only [isAcc]; rw [show isIx c (60 + 1) = true by simpa using hb]; rfl
        rw [this]; exact dv)
  · have hf : isAcc b x = false := by
      unfold isAcc
      split
      · exact absurd ⟨_, _, _, rfl⟩ hT
      · rfl
    rw [hf] at k
    refine q_when (b := true) ?_ (fun _ H1 e1 => s_ret K (d := .bool false) (by walk_at "ev") fun v H2 e2 dv => k v H2 (by walk_at "ex") dv) fun z => nomatch z
    cases hk : kT x with
    | false => exact et_is (et_or (a := true) (b := true) (et_is (a := !kT x) (et_not (et_B (by walk_at "ev"))) (by rw [hk]; rfl)) fun z => nomatch z) rfl
    | true =>
      obtain ⟨ds, rfl⟩ : ∃ ds, x = .tuple ds := by
        cases x with
        | tuple ds => exact ⟨ds, rfl⟩
        | _ => cases hk
      have h3 : ds.length ≠ 3 := fun z => by
        match ds, z with
        | [p, q, c], _ => exact hT ⟨p, q, c, rfl⟩
      exact et_is (et_or (a := false) (b := true) (et_is (a := !kT (.tuple ds)) (et_not (et_B (by walk_at "ev"))) rfl) fun _ => et_is (et_or (a := true) (b := true) (et_is (a := !decide ((ds.length : Int) = 3)) (by walk_at "et") (by
        rw [decide_eq_false (by omega)]; rfl)) fun z => nomatch z) rfl) rfl
/-- accords as data -/
def accD (a : Nat × Nat × Nat) : PyData := .tuple [.int a.1, .int a.2.1, .int a.2.2]
def GoodAcc (b : Nat) (a : Nat × Nat × Nat) : Prop := a.1 < b ∧ a.2.1 < b ∧ a.2.2 ≤ 60
theorem good_acc {b : Nat} {a : Nat × Nat × Nat} (h : GoodAcc b a) : isAcc b (accD a) = true := by
  obtain ⟨h1, h2, h3⟩ := h
  simp only [accD, isAcc, isIx, Bool.and_eq_true, decide_eq_true_eq]
  omega
def R_checkA (ds : List PyData) (d : PyData) : Prop := ∃ (b : Nat) (s : Bool) (as : List (Nat × Nat × Nat)), as.length ≤ 20 ∧ (∀ a ∈ as, GoodAcc b a) ∧ ds = [.int b, Seq s (as.map accD)] ∧ d = .none
theorem d_check_accords (F : Fd K mg "check_accords" s_check_accords) (B : Nm mg) (D_is_sequence : Df P w K mg base "is_sequence" 1 ["value"] (sp_sequence K)) (D_is_accord : Df P w K mg base "is_accord" 4 ["bodies", "value"] (spP K R_accord)) : Df P w K mg base "check_accords" 5 ["bodies", "accords"] (spP K R_checkA) := by
  refine d_pure F sc_check_accords (fun _ _ _ _ _ _ us hl => match us, hl with | [_, _], _ => rfl) (by rintro _ _ ⟨b, s', as, hl, hg, rfl, rfl⟩; rfl) fun f cdv A outer s H vs ds d Q E hr hds hR k => ?_
  have hu64 := hr.units
  have hu65 := room65 hr
  have hu1 := room1 hr
  obtain ⟨b, s', as, hl, hg, rfl, rfl⟩ := hR
  obtain ⟨v0, v1, rfl, h0, h1⟩ := dpa2 hds
  cases dp_int h0
  refine ⟨_, (pss_one (ps_if (PW.pt (pw_or (pt_not (pt_val (pe_df D_is_sequence (hr.mono (by decide)) (by rfl) (pa_cons (pv 1) pa_nil)))) (pw_or (pt_cmpR op_gt (pe_callB (call_lenK (K := K) rfl) (by rfl) B.len PySem.boot_len (pa_cons (pv 1) pa_nil)) (pe_globI rfl B.mg_ACCORDS) (nomark _)) (pw_or1 (pt_not (pt_val (pe_callB (cr_all rfl) (by rfl) B.all (by decide +kernel) (pa_cons (pe_lc (own := [("one", 2)]) rfl sc_check_accords.nd (pi_seqK (K := K) rfl (pv 1)) (blkOk_by (own := [("one", 2)]) (N := N_check_accords) (sc := defScope s_check_accords) (by decide +kernel)) (fun _ _ _ _ _ => (pg_name (i := 2) sc_check_accords.nd rfl (.inl rfl))) (fun _ _ _ _ _ => pts_nil) (fun _ _ _ _ _ => (pe_df D_is_accord (hr.mono (by decide)) (by rfl) (pa_cons (pv 0) (pa_cons (pv 2) pa_nil))))) pa_nil)))))))) (pss_one ps_never) pss_nil)), ?_⟩
  try dsimp only [cxOf, Cx.nox, Cx.wish]
  have lenS : ∀ {σ H}, EvD K (tVar 1) σ H (Seq s' (as.map accD)) → EvD K (tCB (fun xs H Q => ∃ p ys, xs = [V.ref p] ∧ (SqL K H p ys ∨ SqT K H p ys) ∧ Q (V.int ↑ys.length) H) (tCons (tVar 1) tNil)) σ H (.int (as.length : Nat)) := fun h => by
    cases s' with
    | true => exact evd_is (evd_cb (evda_cons h evda_nil) rc_len) (by rw [List.length_map])
    | false => exact evd_is (evd_cb (evda_cons h evda_nil) rc_lenT) (by rw [List.length_map])
  refine s_when (b := false) (et_is (et_or (a := false) (b := false) (et_is (et_not (et_B (evd_seq (by walk_at "ev")))) (by rw [seq_kind]; rfl)) fun _ => et_is (et_or (a := decide ((20 : Int) < (as.length : Int))) (b := false) (et_test (evd_op (lenS (by walk_at "ev")) (by walk_at "ev") rd_gt)) fun _ =>
    et_is (et_not (et_B (b := true) (evd_is (evd_all (b := s') (ds := as.map accD) (fun _ => true) (by walk_at "ev") (by rw [List.length_map]; omega) fun x hx => ?_) (by simp)))) rfl) (by rw [decide_eq_false (by omega)]; rfl)) rfl) (fun z => nomatch z) fun _ H1 e1 => k _ _ (by walk_at "ex") .non
  refine lct_name (fun v => rfl) fun v H1 e dv => ⟨et_yes, fun _ => ?_⟩
  obtain ⟨a, ha, rfl⟩ := List.mem_map.mp hx
  exact evd_call (ds := [.int (b : Nat), accD a]) (by walk_at "ea") ⟨b, accD a, rfl, rfl, by rw [good_acc (hg a ha)]⟩
/-- the counts that accords tell of a pair -/
def told (as : List (Nat × Nat × Nat)) (i j : Nat) : List Nat := (as.filter fun a => decide ((a.1 = i ∧ a.2.1 = j) ∨ (a.1 = j ∧ a.2.1 = i))).map (·.2.2)
def R_told (ds : List PyData) (d : PyData) : Prop := ∃ (s : Bool) (as : List (Nat × Nat × Nat)) (i j : Nat), as.length ≤ 100 ∧ ds = [Seq s (as.map accD), .int i, .int j] ∧ d = .list ((told as i j).map intN)
theorem d_told_counts (F : Fd K mg "told_counts" s_told_counts) (B : Nm mg) : Df P w K mg base "told_counts" 1 ["accords", "one", "other"] (spP K R_told) := by
  refine d_pure F sc_told_counts (fun _ _ _ _ _ _ us hl => match us, hl with | [_, _, _], _ => rfl) (by rintro _ _ ⟨s', as, i, j, hl, rfl, rfl⟩; rfl) fun f cdv A outer s H vs ds d Q E hr hds hR k => ?_
  have hu64 := hr.units
  have hu65 := room65 hr
  have hu1 := room1 hr
  obtain ⟨s', as, i, j, hl, rfl, rfl⟩ := hR
  obtain ⟨v0, v1, v2, rfl, h0, h1, h2⟩ := dpa3 hds
  cases dp_int h1
  cases dp_int h2
  refine ⟨_, (pss_one (ps_ret (pe_lc (own := [("first", 3), ("second", 4), ("count", 5)]) rfl sc_told_counts.nd (pi_seqK (K := K) rfl (pv 0)) (blkOk_by (own := [("first", 3), ("second", 4), ("count", 5)]) (N := N_told_counts) (sc := defScope s_told_counts) (by decide +kernel)) (fun _ _ _ _ _ => (pg_tupK (K := K) (n := 3) rfl rfl (pgs_cons (pg_name (i := 3) sc_told_counts.nd rfl (.inl rfl)) (pgs_cons (pg_name (i := 4) sc_told_counts.nd rfl (.inl rfl)) (pgs_cons (pg_name (i := 5) sc_told_counts.nd rfl (.inl rfl)) pgs_nil))))) (fun _ _ _ _ _ => pts_one (pt_cmpR (op_inTT (K := K) hu65 rfl) (pe_tup (pa_cons (pv 3) (pa_cons (pv 4) pa_nil))) (pe_tup (pa_cons (pe_tup (pa_cons (pv 1) (pa_cons (pv 2) pa_nil))) (pa_cons (pe_tup (pa_cons (pv 2) (pa_cons (pv 1) pa_nil))) pa_nil))) (by rfl))) (fun _ _ _ _ _ => (pv 5))))), ?_⟩
  try dsimp only [cxOf, Cx.nox, Cx.wish]
  refine s_ret K (d := .list ((told as i j).map intN)) (evd_is (evd_lcI (b := s') accD as (fun a => decide ((a.1 = i ∧ a.2.1 = j) ∨ (a.1 = j ∧ a.2.1 = i))) (fun a => intN a.2.2) (by walk_at "ev") (by omega) (fun _ _ _ => rfl) fun a ha => ?_) (by unfold told; rw [List.map_map]; rfl)) fun v H1 e dv => k v H1 (by walk_at "ex") dv
  obtain ⟨p, q, c⟩ := a
  refine lct_three (fun v u t => rfl) fun v u t H1 e dv du dt => ?_
  cases dp_int dv
  cases dp_int du
  cases dp_int dt
  refine ⟨et_test (evd_is (evd_op (d := .tuple [.int (p : Nat), .int (q : Nat)]) (e := .tuple [.tuple [.int (i : Nat), .int (j : Nat)], .tuple [.int (j : Nat), .int (i : Nat)]]) (by walk_at "ev") (by walk_at "ev") (rd_inTT rfl rfl)) ?_), fun _ => show EvD K _ _ _ (.int (c : Nat)) from by walk_at "ev"⟩
  congr 1
  show ((((i : Int) == (p : Int)) && ((((j : Int) == (q : Int)) && true))) || ((((j : Int) == (p : Int)) && (((i : Int) == (q : Int)) && true)) || false)) = decide ((p = i ∧ q = j) ∨ (p = j ∧ q = i))
  rw [Bool.eq_iff_iff]
  simp
  omega
end Bw
end
section
set_option Elab.async false
set_option linter.all false
set_option maxRecDepth 100000
set_option maxHeartbeats 4000000
/-! dict comprehensions whose keys are tuples. -/
namespace Bw
open PySem PySem.Spec PyProof.Rows L2
theorem put_tup {X : Cx} {pn : List (Addr × Obj)} {σ : L2.St} {H : Hp} {s : Shared} {E : Value → Shared → Prop} {D b : Addr} {kvs : List (List L2.Key × V)} {k : List L2.Key} {v : V} {r : Value} {Q : Unit → Shared → Prop} (hu : X.A.units + 1 < cLine) (I : Inv X pn σ H s)
    (hD : H D = some (.dT kvs)) (hz : kvs.length < sizeLine) (eb : H b = some (.tup (k.map kV))) (rv : RelV v r) (q : ∀ t, Inv X pn σ (upd H D (.dT (putK kvs k v))) t → Q () t) : wpAny (model X.prog X.w) X.A (dictSet D (.ref b) r) Q E s := by
  obtain ⟨z, nsm, xs, rel, dd⟩ := dt_of I.hok hD
  have zx : xs.length ≤ sizeLine := by rw [← Paired.length rel]; exact z
  have zk : (putK kvs k v).length ≤ sizeLine := by have := length_putK kvs k v; omega
  refine wpAny_dictSet_heap (hsz := zx) (show X.A.units < cLine from Nat.lt_of_succ_lt hu) (key_of I.hok eb) dd fun g dg sb => q _ ?_
  obtain ⟨o, es, ep, go, g2, g3, g4, _, g5⟩ := dg
  refine d_write I (by rw [hD]; exact True.intro) sb ⟨o, go⟩ ⟨zk, nsm, _, (rel.put k eb rv).keeps fun c ys ec => ?_, o, es, ep, go, g2, g3, g4, g5⟩
  rw [upd_ne (ne_of ec hD (fun z => nomatch z))]
  exact ec
section
variable {X : Cx}
def tDcT (wi : TI) (g : TG) (tk tv : TE) (vs : List Nat) : TE := fun σ H Q => wi σ H fun J H1 => ∀ D, H1 D = none → ∃ W : Nat → Nat → Hp → Prop, (∃ m, W 0 m (upd H1 D (.dT []))) ∧ ∀ i m H, W i m H →
  (J.stop i H ∧ Q (.ref D) H) ∨ (J.go i H ∧ ∃ Nx : Hp → Prop, (∀ H', Nx H' → ∃ m', m' < m ∧ W (i + 1) m' H') ∧ ∀ x H', J.yld i H x H' → g x (wipe σ vs) H' fun σ2 H2 => wipe σ2 vs = wipe σ vs ∧
    tk σ2 H2 fun y H4 => tv σ2 H4 fun z H5 => ∃ kvs k b, y = .ref b ∧ H5 b = some (.tup (k.map kV)) ∧ H5 D = some (.dT kvs) ∧ kvs.length < sizeLine ∧ Nx (upd H5 D (.dT (putK kvs k z))))
theorem dcT_run {pins : List (Addr × Obj)} {s : Shared} {σ : L2.St} {H : Hp} {Q : VK} {kx vx tg iter : Expr} {scope : Scope} {own : List (Str × Nat)} {pos pos' : Pos} {wi : TI} {g : TG} {tk tv : TE} {use : Option (Value → Sem Unit)} {Qf : Value → Shared → Prop} (calm : X.calm = true) (nd : X.N.Nodup) (I : Inv X pins σ H s) (wi_ : PI X tg iter wi) (ok : BlkOk X.N X.env.scope scope own) (hu : X.A.units + 1 < cLine)
    (gg : ∀ (s : Shared) (H : Hp) (C : Addr) (cl : List (Str × Addr)) (fp : List Addr), PG (X.blk s H scope (compEnvC scope cl C X.env) fp) tg g)
    (gk : ∀ (s : Shared) (H : Hp) (C : Addr) (cl : List (Str × Addr)) (fp : List Addr), PE (X.blk s H scope (compEnvC scope cl C X.env) fp) kx tk)
    (gv : ∀ (s : Shared) (H : Hp) (C : Addr) (cl : List (Str × Addr)) (fp : List Addr), PE (X.blk s H scope (compEnvC scope cl C X.env) fp) vx tv) (fs : ∀ x, foldedSetIterable iter X.env x = pure x)
    (h : tDcT wi g tk tv (own.map (·.2)) σ H Q) (fin : ∀ D C t m G, Inv X pins σ G t → Q (.ref D) G → t.heap.Ns C m → FpOk X pins G C → compPost (model X.prog X.w) X.A X.xe use Qf (.ref D) C (.ok .next) t) :
    wpAny (model X.prog X.w) X.A (comprehension (.DictComp kx vx [⟨tg, iter, [], 0⟩] scope pos) scope X.env pos' newDict false (eval iter X.env) use) Qf X.xe s := by
  have cells : ∀ y ∈ scope.names, y.2 = .free → ∃ c, X.env.cells.lookup y.1 = some c := fun y hy e => (ok.free y hy e).elim (fun k => I.ok.has _ (.inl k)) fun k => I.ok.has _ (.inr k)
  refine wpAny_comprehension_free (use := use) rfl fs (closure_ok cells) ok.kind (fun y hy e => by rw [ok.uniq y hy, e]) (thn (wi_.run pins s σ H _ I h) fun xv s1 hx => thn hx fun itv s2 h2 => ?_)
  obtain ⟨it, fp, tn, J, H2, rfl, J2, T, a2, f2, q⟩ := h2
  refine wpAny_newObj_type (newEnv_comp ?_)
  generalize eD : s2.heap.objs.size = D
  obtain ⟨W, ⟨m0, w0⟩, turn⟩ := q D (J2.hok.fresh (Nat.le_of_eq eD))
  generalize e3 : ({ s2 with heap := s2.heap.push { cls := .type "dict", data := .dict #[] } } : Shared) = s3
  have J3 : Inv X pins σ (upd H2 D (.dT [])) s3 := by
    subst e3 eD
    exact J2.laid (t' := s2.toks) (fun b o e => Heap.get?_push_of_some _ e) (Nat.le_refl _) (dt_empty s2.heap J2.big)
  have p3 : s3.heap = s2.heap.push { cls := .type "dict", data := .dict #[] } := by subst e3; rfl
  have lt2 : ∀ b ∈ fp, b < s2.heap.objs.size := fun b hb => let ⟨o, e, _⟩ := T.obj _ _ a2 b hb; Heap.lt_size e
  have f3 : ∀ b ∈ fp, FpOk X pins (upd H2 D (.dT [])) b ∧ b < s3.heap.objs.size := fun b hb => by
    have l := lt2 b hb
    exact ⟨⟨by rw [upd_ne (by rw [← eD]; exact Nat.ne_of_lt l)]; exact (f2 b hb).1, (f2 b hb).2⟩, by rw [p3, Heap.size_push]; exact Nat.lt_succ_of_lt l⟩
  have a3 : tn 0 s3.heap := T.keep _ _ _ a2 fun b _ o e => by rw [p3]; exact Heap.get?_push_of_some _ e
  have J4 := block_start J3 ok nd f3
  have pg := gg s3 (upd H2 D (.dT [])) s3.heap.objs.size (cellsFrom (s3.heap.objs.size + 1) scope.names (cloFrom X.env.cells scope.names [])) fp
  have pk := gk s3 (upd H2 D (.dT [])) s3.heap.objs.size (cellsFrom (s3.heap.objs.size + 1) scope.names (cloFrom X.env.cells scope.names [])) fp
  have pv := gv s3 (upd H2 D (.dT [])) s3.heap.objs.size (cellsFrom (s3.heap.objs.size + 1) scope.names (cloFrom X.env.cells scope.names [])) fp
  show codeAny _ _ (.compStart _ 0 (.ref it) (.ref D) (compEnvC scope (cellsFrom (s3.heap.objs.size + 1) scope.names (cloFrom X.env.cells scope.names [])) s3.heap.objs.size X.env)) (compPost (model X.prog X.w) X.A X.xe use Qf (.ref D) s3.heap.objs.size) { s3 with heap := pushCells (s3.heap.push { cls := .type "dict", data := .dict #[] }) scope.names }
  have nf : ∀ b ∈ fp, (upd H2 D (.dT [])) b = none := fun b hb => (f3 b hb).1.1
  generalize ec : compEnvC scope (cellsFrom (s3.heap.objs.size + 1) scope.names (cloFrom X.env.cells scope.names [])) s3.heap.objs.size X.env = ce at J4 pg pk pv ⊢
  have lc : ce.locals = s3.heap.objs.size := by subst ec; rfl
  generalize eH : upd H2 D (.dT []) = H3 at J3 J4 pg pk pv w0 nf f3
  generalize e4 : ({ s3 with heap := pushCells (s3.heap.push { cls := .type "dict", data := .dict #[] }) scope.names } : Shared) = s4 at J4 ⊢
  have a4 : tn 0 s4.heap := T.keep _ _ _ a3 fun b _ o e => by subst e4; exact pushCells_keeps _ _ _ _ (Heap.get?_push_of_some _ e)
  have fpk : ∀ {τ : L2.St} {G : Hp} {t : Shared}, Inv (X.blk s3 H3 scope ce fp) [] τ G t → (∀ b ∈ fp, G b = none) → ∀ b ∈ fp, FpOk (X.blk s3 H3 scope ce fp) [] G b := fun {τ G t} J n b hb =>
    ⟨n b hb, (J.ok.exf b hb).1, J.ok.exfs b hb, .inl hb, fun x c e => (J.ok.exf b hb).2 x c e, fun p hp => absurd (show p ∈ ([] : List (Addr × Obj)) ++ [] from hp) (by simp)⟩
  have loop : codeAny (model X.prog X.w) X.A (.compLoop (.DictComp kx vx [⟨tg, iter, [], 0⟩] scope pos) 0 (.ref it) (.ref D) ce) (compPost (model X.prog X.w) X.A X.xe use Qf (.ref D) s3.heap.objs.size) s4 := by
    refine compLoop_anyD (fun n t => ∃ i G, Inv (X.blk s3 H3 scope ce fp) [] (wipe σ (own.map (·.2))) G t ∧ tn i t.heap ∧ (∀ b ∈ fp, G b = none) ∧ W i n G) ?_ m0 ⟨0, H3, J4, a4, nf, w0⟩
    rintro n s5 ⟨i, H5, J5, a5, n5, w5⟩
    rcases turn i n H5 w5 with ⟨stop, qq⟩ | ⟨go, Nx, hN, step⟩
    · refine thnF (T.done (X.blk s3 H3 scope ce fp) rfl rfl rfl calm i [] s5 _ H5 (fun _ _ => False) J5 (fpk J5 n5) a5 stop) fun r s6 ⟨hr, J6⟩ => ?_
      subst hr
      have J7 : Inv X pins σ H5 s6 := J3.call' (ch := fp) J6.os J6.base J6.hok J6.bare fun b hb => ⟨(f3 b hb).1.2.2.2.1, (f3 b hb).1.2.1, (f3 b hb).1.2.2.2.2.1, (f3 b hb).1.2.2.2.2.2⟩
      have nC : H5 ce.locals = none := J6.free
      rw [lc] at nC
      obtain ⟨m, hm, _⟩ := J6.loc
      have hm : s6.heap.Ns ce.locals m := hm
      rw [lc] at hm
      exact fin D _ s6 m H5 J7 qq hm (J3.fpOk (Nat.le_refl _) nC)
    · refine thnF (T.item (X.blk s3 H3 scope ce fp) rfl rfl rfl calm i [] s5 _ H5 (fun _ _ => False) J5 (fpk J5 n5) a5 go) fun r s6 ⟨u, hr, h6⟩ => ?_
      subst hr
      refine thnF h6 fun _ s7 ⟨x, H7, J7, r7, y7, a7, n7⟩ => ?_
      refine thnF (pg.run _ s7 _ H7 x u _ (J7.pinned (fpk J7 n7) (T.obj _ _ a7)) r7 (step x H7 y7)) fun _ s8 ⟨τ, H8, J8, e8, q8⟩ => ?_
      show wpAny _ _ (pure true) _ _ s8
      refine wpAny_pure ?_
      rw [if_pos rfl]
      refine thnF (pk.run _ s8 τ H8 _ J8 q8) fun kv s9 ⟨y, H9, J9, r9, q9⟩ => ?_
      refine thnF (pv.run _ s9 τ H9 _ J9 q9) fun vv s10 ⟨z, H10, J10, r10, kvs, k, b, ey, eb, hD, hz, nx⟩ => ?_
      subst ey
      cases r9
      refine put_tup (X := X.blk s3 H3 scope ce fp) hu J10 hD hz eb r10 fun t Jt => ?_
      obtain ⟨m, hm, w'⟩ := hN _ nx
      have stay : ∀ b ∈ fp, ∀ o, s7.heap.get? b = some o → t.heap.get? b = some o ∧ (upd H10 D (.dT (putK kvs k z))) b = none := fun b hb o e =>
        let p := Jt.pin (b, o) (List.mem_append_right _ (List.mem_append_right _ (mem_pinsAt hb e)))
        ⟨p.1, p.2.1⟩
      refine ⟨m, hm, i + 1, _, (Jt.unpinned (pins := [])).weak (by rw [← e8, wipe_length]) (fun j v e => ?_), T.keep _ _ _ a7 fun b hb o e => (stay b hb o e).1, fun b hb => ?_, w'⟩
      · rw [← e8] at e
        exact (wipe_some e).1
      · obtain ⟨o, e, _⟩ := T.obj _ _ a7 b hb
        exact (stay b hb o e).2
  exact codeAny_compStart_dict loop (T.self X.A 0 _ _ _ a4 loop)
variable {kx vx tg iter : Expr} {scope : Scope} {own : List (Str × Nat)} {pos : Pos} {wi : TI} {g : TG} {tk tv : TE}
theorem pe_dcT (calm : X.calm = true) (nd : X.N.Nodup) (wi_ : PI X tg iter wi) (ok : BlkOk X.N X.env.scope scope own) (hu : X.A.units + 1 < cLine)
    (gg : ∀ (s : Shared) (H : Hp) (C : Addr) (cl : List (Str × Addr)) (fp : List Addr), PG (X.blk s H scope (compEnvC scope cl C X.env) fp) tg g)
    (gk : ∀ (s : Shared) (H : Hp) (C : Addr) (cl : List (Str × Addr)) (fp : List Addr), PE (X.blk s H scope (compEnvC scope cl C X.env) fp) kx tk)
    (gv : ∀ (s : Shared) (H : Hp) (C : Addr) (cl : List (Str × Addr)) (fp : List Addr), PE (X.blk s H scope (compEnvC scope cl C X.env) fp) vx tv) (fs : ∀ x, foldedSetIterable iter X.env x = pure x := by intro _; rfl) :
    PE X (.DictComp kx vx [⟨tg, iter, [], 0⟩] scope pos) (tDcT wi g tk tv (own.map (·.2))) := by
  refine ⟨fun pins s σ H Q I h => ?_⟩
  rw [arm_eval_DictComp]
  refine dcT_run calm nd I wi_ ok hu gg gk gv fs h fun D C t m G J q hm f => ⟨m, hm, fun g sb => ?_⟩
  obtain ⟨k0, k1, k2, k3, k4, k5⟩ := f
  exact ⟨.ref D, G, J.turned (t' := t.toks) (fun b o hb e => (sb.2 b hb).trans e) k0 k1 k3 k4 k5, rfl, q⟩
/-- y = {..}, stored ahead of the block's end -/
theorem ps_setDcT {i : Nat} {y : Str} {py spos : Pos} (calm : X.calm = true) (nd : X.N.Nodup) (hy : X.N[i]? = some y) (yl : X.env.scope.names.lookup y = some .local) (sw : swapsWith (.DictComp kx vx [⟨tg, iter, [], 0⟩] scope pos) (some (.Name y py)) spos.line X.env = pure true)
    (wi_ : PI X tg iter wi) (ok : BlkOk X.N X.env.scope scope own) (hu : X.A.units + 1 < cLine)
    (gg : ∀ (s : Shared) (H : Hp) (C : Addr) (cl : List (Str × Addr)) (fp : List Addr), PG (X.blk s H scope (compEnvC scope cl C X.env) fp) tg g)
    (gk : ∀ (s : Shared) (H : Hp) (C : Addr) (cl : List (Str × Addr)) (fp : List Addr), PE (X.blk s H scope (compEnvC scope cl C X.env) fp) kx tk)
    (gv : ∀ (s : Shared) (H : Hp) (C : Addr) (cl : List (Str × Addr)) (fp : List Addr), PE (X.blk s H scope (compEnvC scope cl C X.env) fp) vx tv) (fs : ∀ x, foldedSetIterable iter X.env x = pure x := by intro _; rfl) :
    PS X (.Assign [.Name y py] (.DictComp kx vx [⟨tg, iter, [], 0⟩] scope pos) spos) (tAsg (tDcT wi g tk tv (own.map (·.2))) (gName i)) := by
  refine ⟨fun pins s σ H D I h => ?_⟩
  rw [exec_Assign_Name_used _ _ _ _ sw]
  refine wpAny_bind (wpAny_standAt (wpAny_bind ?_))
  show wpAny _ X.A (do let _ ← comprehension (.DictComp kx vx _ scope pos) scope X.env _ newDict false (eval iter X.env) (some (assign (.Name y py) X.env))) _ _ s
  refine wpAny_bind (thn (dcT_run (Q := fun x G => gName i x σ G D.nx) (Qf := fun _ t => SP X pins D .next t) calm nd I wi_ ok hu gg gk gv fs h fun L C t m G J q hm f => ?_) fun _ t hq => wpAny_pure (wpAny_pure hq))
  show wpAny _ _ (assign (.Name y py) X.env (.ref L)) _ _ _
  refine wpAny_assign_Name (store_ok2 (v := V.ref L) J nd hy (.inl yl) rfl (fun u Ju ⟨a, sb, ha⟩ => ?_) (.inr yl))
  obtain ⟨k0, k1, k2, k3, k4, k5⟩ := f
  have na : C ≠ a := ha.elim (fun z => by rw [z]; exact k1) fun z e => k4 y a z e.symm
  exact ⟨m, hm.sameBut sb na, fun g sg => ⟨_, G, Ju.turned (t' := u.toks) (fun b o hb e => (sg.2 b hb).trans e) k0 k1 k3 k4 k5, q⟩⟩
end
theorem swd_true {kx vx : Expr} {gs : List Comprehension} {scope : Scope} {pos py : Pos} {y : Str} {l : Nat} {env : Env} (bk : env.scope.kind = .function) (yl : env.scope.names.lookup y = some .local) (ln : (py.line == pos.line) = true)
    (no : (scope.names.any fun (n, k) => n == y && (k == .local || k == .cell)) = false) : swapsWith (.DictComp kx vx gs scope pos) (some (.Name y py)) l env = pure true := by
  have e1 : env.kindOf y = some .local := yl
  have e2 : env.blockKind = .function := by unfold Env.blockKind; rw [bk]; rfl
  unfold swapsWith
  simp only [e1, e2, no, Expr.pos, ln]
  rfl
end Bw
end
section
set_option Elab.async false
set_option linter.all false
set_option maxRecDepth 100000
set_option maxHeartbeats 4000000
/-! dicts whose keys are tuples, compared. -/
namespace Bw
open PySem PySem.Spec PyProof.Rows L2
section
variable {prog : Program} {w : World} {κ : Type} [DecidableEq κ] {knd : HeapKind prog w κ} {A : Around} {E : Value → Shared → Prop} {s : Shared}
/-- the pairs of xa against xb, key by key -/
theorem pairs_same {id : String} {a b : Addr} {xa xb : List (κ × Addr × Value)} {r : Bool} {Q : Bool → Shared → Prop} (ha : (a == sysModules) = false) (hb : (b == sysModules) = false) (hu : knd.room A)
    (da : s.heap.DictOfH knd a xa) (db : s.heap.DictOfH knd b xb) (hits : xa.length = xb.length → ∃ e : κ × Addr × Value → Bool, r = xa.all e ∧ ∀ x ∈ xa, ∃ y, atKey xb x.1 = some y ∧ SeqAt.EqP prog w A s x.2.2 y.2 (e x)) (h : Q (xa.length == xb.length && r) s) :
    wpAny (model prog w) A (Builtin.Dict.samePairs id a b) Q E s := by
  obtain ⟨oa, ea, pa, a1, _, a2, a3, a4, a5⟩ := da
  obtain ⟨ob, eb, pb, b1, _, b2, b3, b4, b5⟩ := db
  have la : ea.size = xa.length := size_of_entries a3
  have lb : eb.size = xb.length := size_of_entries b3
  unfold Builtin.Dict.samePairs Builtin.Dict.showsAll
  rw [ha, hb, if_neg Bool.false_ne_true]
  refine wpAny_bind (wpAny_pure (wpAny_bind (wpAny_pure (wpAny_bind (wpAny_dictEntries a1 a2 ?_)))))
  dsimp only
  refine wpAny_bind (wpAny_dictEntries b1 b2 ?_)
  by_cases hz : ea.size = eb.size
  · have hl : xa.length = xb.length := by omega
    obtain ⟨e, rfl, he⟩ := hits hl
    rw [hl, beq_self_eq_true, Bool.true_and] at h
    rw [if_neg (by rw [hz]; simp)]
    refine wpAny_bind (wpAny_dictEpoch a1 a2 (wpAny_bind ?_))
    rw [Std.Legacy.Range.forIn_eq_forIn_range']
    simp only [Std.Legacy.Range.size, Nat.sub_zero, Nat.add_sub_cancel, Nat.div_one]
    refine wpAny_forIn_list _ (fun rest q t => t = s ∧ q = (none, ()) ∧ ∃ i, rest = List.range' i (ea.size - i) ∧ i ≤ ea.size ∧ (xa.drop i).all e = xa.all e) _ ?_ ?_ _ _ ⟨rfl, rfl, 0, by simp, Nat.zero_le _, rfl⟩
    · rintro i rest q t ⟨rfl, rfl, i', e1, e2, e3⟩
      have lt : i' < ea.size := by
        rcases Nat.lt_or_ge i' ea.size with z | z
        · exact z
        · rw [Nat.sub_eq_zero_of_le z] at e1; cases e1
      rw [show ea.size - i' = (ea.size - (i' + 1)) + 1 by omega, List.range'_succ] at e1
      injection e1 with e1 e4
      subst e1
      have lx : i < xa.length := by omega
      obtain ⟨⟨k, c, v⟩, hx⟩ : ∃ x, xa[i]? = some x := ⟨_, List.getElem?_eq_getElem lx⟩
      have hm := List.mem_of_getElem? hx
      obtain ⟨⟨c', v'⟩, hy, heq⟩ := he _ hm
      have hdr : xa.drop i = (k, c, v) :: xa.drop (i + 1) := by
        obtain ⟨q1, q2⟩ := List.getElem?_eq_some_iff.mp hx
        rw [List.drop_eq_getElem_cons q1, q2]
      have hei : ea[i]? = some (entryOfKey knd (k, c, v)) := by rw [entry_at a3 i, hx]; rfl
      refine wpAny_bind (wpAny_dictEntries a1 a2 ?_)
      rw [hei]
      show wpAny _ _ (holding _ _ >>= _) _ _ _
      refine wpAny_bind (wpAny_holding (wpAny_bind (wpAny_dictFind_heap (k := k) hu (a4 _ hm) b1 b2 b3 b4 b5 (fun no => ?_) fun j p hj => ?_)))
      · rw [atKey_none_of_get no] at hy; cases hy
      · rw [atKey_of_get b5 hj] at hy
        cases hy
        have hej : eb[j]? = some (entryOfKey knd (k, c', v')) := by rw [entry_at b3 j, hj]; rfl
        refine wpAny_bind (wpAny_dictEntries b1 b2 ?_)
        rw [hej]
        refine wpAny_holding (heq _ _ ?_)
        rw [hdr, List.all_cons] at e3
        cases hek : e (k, c, v) with
        | false =>
          rw [hek, Bool.false_and] at e3
          rw [← e3] at h
          exact wpAny_pure (wpAny_pure h)
        | true =>
          rw [hek, Bool.true_and] at e3
          refine wpAny_bind (wpAny_dictEpoch a1 a2 ?_)
          rw [if_neg (by simp)]
          exact wpAny_pure ⟨rfl, rfl, i + 1, e4, lt, e3⟩
    · rintro q t ⟨rfl, rfl, i, e1, e2, e3⟩
      have ei : i = ea.size := by
        rcases Nat.lt_or_ge i ea.size with z | z
        · rw [show ea.size - i = (ea.size - (i + 1)) + 1 by omega, List.range'_succ] at e1; cases e1
        · omega
      rw [ei, la, List.drop_length] at e3
      refine wpAny_pure ?_
      rw [← e3] at h
      exact h
  · rw [if_pos (by simpa using hz)]
    have : (xa.length == xb.length) = false := by rw [← la, ← lb]; simpa using hz
    rw [this, Bool.false_and] at h
    exact wpAny_bind (wpAny_rule (wpAny_pure h))
end
end Bw
end
section
set_option Elab.async false
set_option linter.all false
set_option maxRecDepth 100000
set_option maxHeartbeats 4000000
/-! tables: dicts from tuples of ints to data. -/
namespace Bw
open PySem PySem.Spec PyProof.Rows L2
abbrev TK := List L2.Key
/-- the dict at a holds tab -/
def Tab (K : PySem.W.Frag) (H : Hp) (a : Addr) (tab : List (TK × PyData)) : Prop := ∃ kvs : List (TK × V), H a = some (.dT kvs) ∧ kvs.map (·.1) = tab.map (·.1) ∧ DpAll K H (kvs.map (·.2)) (tab.map (·.2))
def lk (tab : List (TK × PyData)) (k : TK) : Option PyData := (tab.find? fun p => decide (p.1 = k)).map (·.2)
def eqK (ta tb : List (TK × PyData)) (k : TK) : Bool := match lk ta k, lk tb k with
  | some d, some e => PyData.eqv d e
  | _, _ => false
theorem lk_of {tab : List (TK × PyData)} (nd : (tab.map (·.1)).Nodup) {i : Nat} {k : TK} {d : PyData} (h : tab[i]? = some (k, d)) : lk tab k = some d := by
  unfold lk
  induction tab generalizing i with
  | nil => cases h
  | cons p t ih =>
    rw [List.map_cons, List.nodup_cons] at nd
    cases i with
    | zero =>
      have : p = (k, d) := Option.some.inj h
      subst this
      simp [List.find?_cons]
    | succ i =>
      have h : t[i]? = some (k, d) := h
      have hne : ¬ p.1 = k := fun z => nd.1 (by rw [z]; exact List.mem_map.mpr ⟨_, List.mem_of_getElem? h, rfl⟩)
      rw [List.find?_cons, decide_eq_false hne]
      exact ih nd.2 h
section
variable {X : Cx} {pins : List (Addr × Obj)} {σ : L2.St} {H : Hp} {s : Shared} {a : Addr} {tab : List (TK × PyData)}
/-- what stands in the machine behind a table -/
theorem tab_in (I : Inv X pins σ H s) (t : Tab X.K H a tab) : (a == sysModules) = false ∧ ∃ xs : List (TK × Addr × Value), s.heap.DictOfH (tupleKind (mixKind X.prog X.w)) a xs ∧ xs.map (·.1) = tab.map (·.1) ∧ xs.length = tab.length ∧ (tab.map (·.1)).Nodup ∧
    ∀ (i : Nat) (k : TK) (c : Addr) (v : Value), xs[i]? = some (k, c, v) → ∃ d as, tab[i]? = some (k, d) ∧ Reads s.heap v d as := by
  obtain ⟨kvs, h1, h2, h3⟩ := t
  obtain ⟨_, nsm, xs, rel, dd⟩ := dt_of I.hok h1
  have ek : ∀ {l : List (TK × V)} {m : List (TK × Addr × Value)}, KT H l m → l.map (·.1) = m.map (·.1) := by
    intro l m q
    induction q with
    | nil => rfl
    | cons hq t ih => rw [List.map_cons, List.map_cons, ih, hq.1]
  have e1 := ek rel
  have nd : (xs.map (·.1)).Nodup := let ⟨_, _, _, _, _, _, _, _, n⟩ := dd; n
  have l1 := Paired.length rel
  have l2 : kvs.length = tab.length := by have := congrArg List.length h2; simpa using this
  refine ⟨nsm, xs, dd, by rw [← e1, h2], by omega, by rw [← h2, e1]; exact nd, fun i k c v hx => ?_⟩
  have lx := (List.getElem?_eq_some_iff.mp hx).1
  have get : ∀ {l : List (TK × V)} {m : List (TK × Addr × Value)}, KT H l m → ∀ (i : Nat) (x : TK × Addr × Value), m[i]? = some x → ∃ p : TK × V, l[i]? = some p ∧ p.1 = x.1 ∧ RelV p.2 x.2.2 := by
    intro l m q
    induction q with
    | nil => intro i x hx; cases hx
    | @cons p q ps qs hq t ih =>
      intro i x hx
      cases i with
      | zero =>
        have : q = x := Option.some.inj hx
        subst this
        exact ⟨p, rfl, hq.1, hq.2.2⟩
      | succ i => exact ih i x hx
  obtain ⟨p, hp, hp1, hp2⟩ := get rel i _ hx
  obtain ⟨d, hd, dp⟩ := dpa_get' (i := i) h3 (v := p.2) (by rw [List.getElem?_map, hp]; rfl)
  have lt : i < tab.length := by omega
  have hti : tab[i]? = some tab[i] := List.getElem?_eq_getElem lt
  have k1 : tab[i].1 = k := by
    have : (kvs.map (·.1))[i]? = (tab.map (·.1))[i]? := by rw [h2]
    rw [List.getElem?_map, List.getElem?_map, hp, hti] at this
    have := Option.some.inj this
    exact this.symm.trans hp1
  have d1 : tab[i].2 = d := by
    rw [List.getElem?_map, hti] at hd
    exact Option.some.inj hd
  obtain ⟨as, rd⟩ := Dp.reads I d p.2 v dp hp2
  exact ⟨d, as, by rw [hti, ← k1, ← d1], rd⟩
/-- found != before -/
def rNeT (K : PySem.W.Frag) : R2 := fun x y H Q => ∃ a b ta tb, x = .ref a ∧ y = .ref b ∧ Tab K H a ta ∧ Tab K H b tb ∧ (ta.length = tb.length → ta.map (·.1) = tb.map (·.1)) ∧ (∀ p ∈ ta, SeqAt.shaped p.2 = true) ∧ (∀ p ∈ tb, SeqAt.shaped p.2 = true) ∧
  Q (.bl (!(ta.length == tb.length && (ta.map (·.1)).all (eqK ta tb)))) H
theorem op_neT {K : PySem.W.Frag} (hu : X.A.units + 65 < cLine) (hK : X.K = K) : OpR X (compareOp .NotEq) (rNeT K) := by
  subst hK
  intro pins s σ H x y v u Q I rx ry ⟨a, b, ta, tb, ex, ey, ka, kb, hk, sa, sb, q⟩
  subst ex ey
  cases rx
  cases ry
  obtain ⟨na, xa, da, ea, la, nda, ga⟩ := tab_in I ka
  obtain ⟨nb, xb, db, eb, lb, ndb, gb⟩ := tab_in I kb
  refine wpAny_richCompare_same_room (op := .NotEq) da.typeIs db.typeIs PySem.F.slot_dict_ne (wpAny_call_entry PySem.F.slot_dict_ne da.typeIs PySem.F.entry_dict_ne ?_ (PySem.F.args_dict_ne_2 _ _)) (by omega)
  show wpAny _ _ (Builtin.Dict.dictSlotArgs _ _ >>= _) _ _ s
  refine wpAny_bind ?_
  unfold Builtin.Dict.dictSlotArgs
  refine wpAny_bind (wpAny_notOrdered_dict da.typeIs ?_)
  show wpAny _ _ (pure (Value.ref a, Value.ref b)) _ _ s
  refine wpAny_pure (wpAny_bind (wpAny_isInstance (T := "dict") db.typeIs PySem.F.sub_dict_dict ?_))
  rw [show (!true) = false from rfl, if_neg Bool.false_ne_true]
  refine wpAny_bind (wpAny_pure (wpAny_bind (wpAny_pure (wpAny_bind (pairs_same (r := (ta.map (·.1)).all (eqK ta tb)) na nb (show X.A.units + 1 < cLine by omega) da db (fun hl => ?_) ?_)))))
  · have hk := hk (by omega)
    refine ⟨fun x => eqK ta tb x.1, ?_, fun x hx => ?_⟩
    · rw [← ea, List.all_map]; rfl
    · obtain ⟨i, hi⟩ := List.mem_iff_getElem?.mp hx
      obtain ⟨k, c, v⟩ := x
      obtain ⟨d, as, td, rd⟩ := ga i k c v hi
      have lt : i < xb.length := by have := (List.getElem?_eq_some_iff.mp hi).1; omega
      obtain ⟨⟨k', c', v'⟩, hi'⟩ : ∃ z, xb[i]? = some z := ⟨_, List.getElem?_eq_getElem lt⟩
      have ek : k' = k := by
        have : (xa.map (·.1))[i]? = (xb.map (·.1))[i]? := by rw [ea, eb, hk]
        rw [List.getElem?_map, List.getElem?_map, hi, hi'] at this
        exact (Option.some.inj this).symm
      subst ek
      obtain ⟨d', as', td', rd'⟩ := gb i _ c' v' hi'
      have s1 := sa _ (List.mem_of_getElem? td)
      have s2 := sb _ (List.mem_of_getElem? td')
      refine ⟨(c', v'), atKey_of_get (let ⟨_, _, _, _, _, _, _, _, n⟩ := db; n) hi', ?_⟩
      have : eqK ta tb k' = PyData.eqv d d' := by
        unfold eqK
        rw [lk_of nda td, lk_of ndb td']
      show SeqAt.EqP _ _ _ _ v v' (eqK ta tb k')
      rw [this]
      exact (SeqAt.eqAt_reads d d' X.A.in1 s v v' as as' rd rd' (SeqAt.canLay_of_shaped s1) (SeqAt.canLay_of_shaped s2) (SeqAt.room_of_shaped s1 (show X.A.units + 1 + 64 < cLine by omega))).eqP
  · refine wpAny_pure ⟨_, rfl, (fun z => nomatch z), ?_⟩
    rw [la, lb]
    refine ⟨.bl _, H, I, rfl, ?_⟩
    rw [show ∀ b : Bool, (b == false) = !b from fun b => by cases b <;> rfl]
    exact q
end
end Bw
end
section
set_option Elab.async false
set_option linter.all false
set_option maxRecDepth 100000
set_option maxHeartbeats 4000000
/-! tables read and written. -/
namespace Bw
open PySem PySem.Spec PyProof.Rows L2
def ky (i j : Int) : TK := [.inl i, .inl j]
theorem ky_map (i j : Int) : (ky i j).map kV = [V.int i, V.int j] := rfl
/-- tab with d at k -/
def putT (tab : List (TK × PyData)) (k : TK) (d : PyData) : List (TK × PyData) := if (tab.any fun p => decide (p.1 = k)) = true then tab.map fun p => if p.1 = k then (p.1, d) else p else tab ++ [(k, d)]
section
variable {K : PySem.W.Frag} {H H1 H' H2 : Hp} {S : List Addr} {a p q : Addr} {v : V} {tab : List (TK × PyData)} {k : TK} {d : PyData}
theorem Tab.lsts (t : Tab K H a tab) : Lsts [a] H := fun b hb => by
  obtain ⟨kvs, h, _⟩ := t
  rw [List.mem_singleton.mp hb]
  exact .inr ⟨kvs, h⟩
theorem Tab.mono (e : Ex H H') (t : Tab K H a tab) : Tab K H' a tab := by
  obtain ⟨kvs, h1, h2, h3⟩ := t
  exact ⟨kvs, e _ _ h1, h2, dpa_ex e h3⟩
theorem Tab.bts (b : Bts S H H') (hl : Lsts S H) (n : ∀ p ∈ tab, noL p.2 = true) (ha : a ∉ S) (t : Tab K H a tab) : Tab K H' a tab := by
  obtain ⟨kvs, h1, h2, h3⟩ := t
  refine ⟨kvs, b _ _ ha h1, h2, dpa_bts b hl (noLs_all fun d hd => ?_) h3⟩
  obtain ⟨p, hp, rfl⟩ := List.mem_map.mp hd
  exact n p hp
theorem Tab.new (h : H a = some (.dT [])) : Tab K H a [] := ⟨[], h, rfl, .nil⟩
theorem pair_ind : ∀ {kvs : List (TK × V)} {tab : List (TK × PyData)}, kvs.map (·.1) = tab.map (·.1) → DpAll K H (kvs.map (·.2)) (tab.map (·.2)) → ∀ {d : PyData}, lk tab k = some d → ∃ v, valV kvs k = some v ∧ Dp K H v d
  | [], [], _, _, _, h => by cases h
  | [], _ :: _, e, _, _, _ => by cases e
  | _ :: _, [], e, _, _, _ => by cases e
  | (k1, v1) :: kvs, (k2, d2) :: tab, e, h, d, hl => by
    rw [List.map_cons, List.map_cons] at e
    injection e with e1 e2
    have e1 : k1 = k2 := e1
    subst e1
    cases h with | cons h1 h2 =>
    unfold lk at hl
    by_cases hk : k1 = k
    · rw [List.find?_cons, decide_eq_true hk] at hl
      have hd : d2 = d := Option.some.inj hl
      subst hd
      exact ⟨v1, valV_pos (p := (k1, v1)) hk, h1⟩
    · rw [List.find?_cons, decide_eq_false hk] at hl
      obtain ⟨v, hv, dv⟩ := pair_ind e2 h2 hl
      exact ⟨v, by rw [valV_neg (p := (k1, v1)) hk]; exact hv, dv⟩
theorem Tab.get (t : Tab K H a tab) (h : lk tab k = some d) : ∃ kvs v, H a = some (.dT kvs) ∧ valV kvs k = some v ∧ Dp K H v d := by
  obtain ⟨kvs, h1, h2, h3⟩ := t
  obtain ⟨v, h4, h5⟩ := pair_ind h2 h3 h
  exact ⟨kvs, v, h1, h4, h5⟩
theorem any_keys {kvs : List (TK × V)} (e : kvs.map (·.1) = tab.map (·.1)) : (kvs.any fun kv => decide (kv.1 = k)) = tab.any fun p => decide (p.1 = k) := by
  have h1 : (kvs.any fun kv => decide (kv.1 = k)) = (kvs.map (·.1)).any fun x => decide (x = k) := by rw [List.any_map]; rfl
  have h2 : (tab.any fun kv => decide (kv.1 = k)) = (tab.map (·.1)).any fun x => decide (x = k) := by rw [List.any_map]; rfl
  rw [h1, h2, e]
theorem put_all : ∀ {kvs : List (TK × V)} {tab : List (TK × PyData)}, kvs.map (·.1) = tab.map (·.1) → DpAll K H (kvs.map (·.2)) (tab.map (·.2)) → Dp K H v d →
    (kvs.map fun kv => if kv.1 = k then (kv.1, v) else kv).map (·.1) = (tab.map fun p => if p.1 = k then (p.1, d) else p).map (·.1) ∧ DpAll K H ((kvs.map fun kv => if kv.1 = k then (kv.1, v) else kv).map (·.2)) ((tab.map fun p => if p.1 = k then (p.1, d) else p).map (·.2))
  | [], [], _, _, _ => ⟨rfl, .nil⟩
  | [], _ :: _, e, _, _ => by cases e
  | _ :: _, [], e, _, _ => by cases e
  | (k1, v1) :: kvs, (k2, d2) :: tab, e, h, hv => by
    rw [List.map_cons, List.map_cons] at e
    injection e with e1 e2
    have e1 : k1 = k2 := e1
    subst e1
    cases h with | cons h1 h2 =>
    obtain ⟨q1, q2⟩ := put_all e2 h2 hv
    simp only [List.map_cons]
    by_cases hk : k1 = k
    · simp only [if_pos hk]
      exact ⟨by rw [q1], .cons hv q2⟩
    · simp only [if_neg hk]
      exact ⟨by rw [q1], .cons h1 q2⟩
/-- a table is written -/
theorem Tab.put (t : Tab K H a tab) (n : ∀ p ∈ tab, noL p.2 = true) (nd : noL d = true) (hv : Dp K H v d) : ∃ kvs, H a = some (.dT kvs) ∧ kvs.length = tab.length ∧ Tab K (upd H a (.dT (putK kvs k v))) a (putT tab k d) := by
  have hl := t.lsts
  obtain ⟨kvs, h1, h2, h3⟩ := t
  have b : Bts [a] H (upd H a (.dT (putK kvs k v))) := Bts.upd List.mem_cons_self
  have hv' := dp_bts b hl nd hv
  have h3' := dpa_bts b hl (noLs_all (ds := tab.map (·.2)) fun d hd => by obtain ⟨p, hp, rfl⟩ := List.mem_map.mp hd; exact n p hp) h3
  refine ⟨kvs, h1, by have := congrArg List.length h2; simpa using this, putK kvs k v, upd_same, ?_⟩
  generalize upd H a (.dT (putK kvs k v)) = G at h3' hv' ⊢
  unfold putK putT
  rw [any_keys h2]
  by_cases hk : (tab.any fun p => decide (p.1 = k)) = true
  · rw [if_pos hk, if_pos hk]
    exact put_all h2 h3' hv'
  · rw [if_neg hk, if_neg hk]
    refine ⟨by rw [List.map_append, List.map_append, h2]; rfl, ?_⟩
    rw [List.map_append, List.map_append]
    exact dpa_app h3' (.cons hv' .nil)
end
section
variable {K : PySem.W.Frag} {σ : L2.St} {H H' : Hp} {ta : TA} {te : TE} {D : Ends} {tz : TS} {d : PyData} {a : Addr} {tab : List (TK × PyData)} {x y : Int} {i : Nat}
theorem evd_getT (hv : σ[i]? = some (some (.ref a))) (t : Tab K H a tab) (hd : lk tab (ky x y) = some d) (h : EvDA K ta σ H [.int x, .int y]) : EvD K (tDGet (tVar i) (tTup ta)) σ H d := fun H1 g Q q =>
  ⟨_, hv, h H1 g _ fun vs H2 g2 dvs => ⟨by rw [dpa_len dvs]; show 2 ≤ sizeLine; decide, fun p np => by
    obtain ⟨u, w, rfl, du, dw⟩ := dpa2 dvs
    cases dp_int du
    cases dp_int dw
    have e : Ex H (upd H2 p (.tup [.int x, .int y])) := g.trans (g2.trans (Ex.new np))
    obtain ⟨kvs, v, h1, h2, h3⟩ := (t.mono e).get hd
    exact ⟨a, v, rfl, by rw [← h2]; exact DGet.t h1 (by rw [ky_map]; exact upd_same), q v _ (g2.trans (Ex.new np)) h3⟩⟩⟩
variable (K) in
theorem s_putT (hv : σ[i]? = some (some (.ref a))) (t : Tab K H a tab) (n : ∀ p ∈ tab, noL p.2 = true) (nd : noL d = true) (hz : tab.length < 1000) (he : EvD K te σ H d) (h : EvDA K ta σ H [.int x, .int y]) (k : ∀ H1, Bts [a] H H1 → Tab K H1 a (putT tab (ky x y) d) → D.nx σ H1) :
    sDPut (tVar i) (tTup ta) te D σ H :=
  he H (Ex.refl H) _ fun v H1 g1 dv => ⟨_, hv, h H1 g1 _ fun vs H2 g2 dvs => ⟨by rw [dpa_len dvs]; show 2 ≤ sizeLine; decide, fun p np => by
    obtain ⟨u, w, rfl, du, dw⟩ := dpa2 dvs
    cases dp_int du
    cases dp_int dw
    have e : Ex H (upd H2 p (.tup [.int x, .int y])) := g1.trans (g2.trans (Ex.new np))
    obtain ⟨kvs, h1, h2, h3⟩ := (t.mono e).put (k := ky x y) n nd (dp_ex (g2.trans (Ex.new np)) dv)
    exact ⟨a, _, rfl, DPut.t h1 (by rw [ky_map]; exact upd_same) (Evl.sz_lt (by omega)), k _ ((Bts.of e).trans (Bts.upd List.mem_cons_self)) h3⟩⟩⟩
variable (K) in
theorem q_newT (k : ∀ p H1, Ex H H1 → H p = none → Tab K H1 p [] → tz D (σ.set i (some (.ref p))) H1) : tSeq (tAsg tDNewT (gName i)) tz D σ H := fun p np => k p _ (Ex.new np) np (Tab.new upd_same)
end
end Bw
end
section
set_option Elab.async false
set_option linter.all false
set_option maxRecDepth 100000
set_option maxHeartbeats 4000000
/-! lists of pairs that stand as tuples; tables over them. -/
namespace Bw
open PySem PySem.Spec PyProof.Rows L2 Bfb
/-! ### rows compared -/
theorem eqv_runD (p q : Nat × Nat) : PyData.eqv (runD p) (runD q) = decide (p = q) := by
  obtain ⟨a, b⟩ := p
  obtain ⟨c, d⟩ := q
  simp only [runD, PyData.eqv, PyData.eqvAll, Bool.and_true]
  rw [Bool.eq_iff_iff]
  simp
  omega
theorem eqv_runs : ∀ r s : Runs, PyData.eqvAll (r.map runD) (s.map runD) = decide (r = s)
  | [], [] => by simp [PyData.eqvAll]
  | [], _ :: _ => by simp [PyData.eqvAll]
  | _ :: _, [] => by simp [PyData.eqvAll]
  | p :: r, q :: s => by
    rw [List.map_cons, List.map_cons, PyData.eqvAll, eqv_runD, eqv_runs r s, Bool.eq_iff_iff]
    simp
theorem eqv_row (R S : Bfb.Row) : PyData.eqv (rowD R) (rowD S) = decide (R = S) := by
  obtain ⟨r, e⟩ := R
  obtain ⟨s, f⟩ := S
  simp only [rowD, runsD, PyData.eqv, PyData.eqvAll, Bool.and_true]
  rw [eqv_runs, Bool.eq_iff_iff]
  simp
  omega
theorem canLay_runs : ∀ r : Runs, PyData.canLayAll0 (r.map runD) = true
  | [] => rfl
  | p :: r => by
    rw [List.map_cons, PyData.canLayAll0, canLay_runs r]
    rfl
theorem depth_runs : ∀ r : Runs, PyData.depthAll (r.map runD) ≤ 2
  | [] => Nat.zero_le _
  | p :: r => by
    rw [List.map_cons, PyData.depthAll]
    have h1 := depth_runs r
    have h2 : PyData.depth (runD p) ≤ 2 := by simp [runD, PyData.depth, PyData.depthAll]
    omega
theorem shaped_row (R : Bfb.Row) : SeqAt.shaped (rowD R) = true := by
  have h1 := depth_runs R.1
  have h2 : (rowD R).depth ≤ 64 := by simp only [rowD, runsD, PyData.depth, PyData.depthAll]; omega
  have h3 : (rowD R).canLay0 = true := by
    simp only [rowD, runsD, PyData.canLay0, PyData.canLayAll0, canLay_runs]
    rfl
  unfold SeqAt.shaped
  rw [h3, decide_eq_true h2]
  rfl
/-! ### pairs -/
def TupK (H : Hp) (v : V) (k : Nat × Nat) : Prop := ∃ b, v = .ref b ∧ H b = some (.tup [.int (k.1 : Nat), .int (k.2 : Nat)])
abbrev PrL (H : Hp) (vs : List V) (ks : List (Nat × Nat)) : Prop := Paired (TupK H) vs ks
def Prs (H : Hp) (a : Addr) (ks : List (Nat × Nat)) : Prop := ∃ vs, H a = some (.lst vs) ∧ PrL H vs ks
def pairD (k : Nat × Nat) : PyData := .tuple [.int (k.1 : Nat), .int (k.2 : Nat)]
section
variable {K : PySem.W.Frag} {H H1 H' H2 : Hp} {S : List Addr} {a b p : Addr} {v : V} {vs : List V} {ks : List (Nat × Nat)} {k : Nat × Nat}
theorem TupK.mono (e : Ex H H') (h : TupK H v k) : TupK H' v k := by
  obtain ⟨b, h1, h2⟩ := h
  exact ⟨b, h1, e _ _ h2⟩
theorem TupK.bts (b : Bts S H H') (hl : Lsts S H) (h : TupK H v k) : TupK H' v k := by
  obtain ⟨c, h1, h2⟩ := h
  refine ⟨c, h1, b _ _ (fun z => ?_) h2⟩
  rcases hl c z with ⟨ys, hy⟩ | ⟨ys, hy⟩ <;> rw [h2] at hy <;> cases hy
theorem TupK.dp (h : TupK H v k) : Dp K H v (pairD k) := by
  obtain ⟨b, rfl, h2⟩ := h
  exact .tup (SqT.of h2) (.cons (.int _) (.cons (.int _) .nil))
theorem prl_map {F G : V → Nat × Nat → Prop} (h : ∀ v k, F v k → G v k) : ∀ {vs : List V} {ks : List (Nat × Nat)}, Paired F vs ks → Paired G vs ks
  | _, _, .nil => .nil
  | _, _, .cons a t => .cons (h _ _ a) (prl_map h t)
theorem PrL.dp : ∀ {vs : List V} {ks : List (Nat × Nat)}, PrL H vs ks → DpAll K H vs (ks.map pairD)
  | _, _, .nil => .nil
  | _, _, .cons a t => .cons a.dp (PrL.dp t)
theorem Prs.mono (e : Ex H H') (h : Prs H a ks) : Prs H' a ks := by
  obtain ⟨vs, h1, h2⟩ := h
  exact ⟨vs, e _ _ h1, prl_map (fun v k h => h.mono e) h2⟩
theorem Prs.bts (b : Bts S H H') (hl : Lsts S H) (ha : a ∉ S) (h : Prs H a ks) : Prs H' a ks := by
  obtain ⟨vs, h1, h2⟩ := h
  exact ⟨vs, b _ _ ha h1, prl_map (fun v k h => h.bts b hl) h2⟩
theorem Prs.dp (h : Prs H a ks) : Dp K H (.ref a) (.list (ks.map pairD)) := by
  obtain ⟨vs, h1, h2⟩ := h
  exact .lst (SqL.of h1) h2.dp
theorem prl_get : ∀ {vs : List V} {ks : List (Nat × Nat)} {i : Nat} {k : Nat × Nat}, PrL H vs ks → ks[i]? = some k → ∃ v, vs[i]? = some v ∧ TupK H v k
  | _, _, _, _, .nil, e => by simp at e
  | _, _, 0, _, .cons h _, e => ⟨_, rfl, by simp at e; rw [← e]; exact h⟩
  | _, _, i + 1, _, .cons _ t, e => by
    obtain ⟨v, h1, h2⟩ := prl_get (i := i) t (by simpa using e)
    exact ⟨v, by simpa using h1, h2⟩
theorem ne_tab {tab : List (TK × PyData)} (t : Tab K H p tab) (h : Prs H a ks) : a ∉ [p] := fun z => by
  obtain ⟨kvs, h1, _⟩ := t
  obtain ⟨vs, h2, _⟩ := h
  rw [List.mem_singleton.mp z, h1] at h2
  cases h2
/-- one more pair at the list D that is being made -/
theorem prs_snoc {D : Addr} {acc : List V} {y : V} (h : H D = some (.lst acc)) (hp : PrL H acc ks) (hy : TupK H y k) : PrL (upd H D (.lst (acc ++ [y]))) (acc ++ [y]) (ks ++ [k]) := by
  have bt : Bts [D] H (upd H D (.lst (acc ++ [y]))) := Bts.upd List.mem_cons_self
  have hl : Lsts [D] H := fun c hc => by rw [List.mem_singleton.mp hc]; exact .inl ⟨_, h⟩
  exact Paired.snoc (prl_map (fun v k h => h.bts bt hl) hp) (hy.bts bt hl)
end
def rowsOf (b i : Nat) : List (Nat × Nat) := (List.range (b - (i + 1))).map fun t => (i, i + 1 + t)
def pairsOf (b : Nat) : List (Nat × Nat) := (List.range b).flatMap (rowsOf b)
theorem pairs_len (b i : Nat) : ((List.range i).flatMap (rowsOf b)).length ≤ b * i := by
  induction i with
  | zero => exact Nat.zero_le _
  | succ i ih =>
    rw [List.range_succ, List.flatMap_append, List.length_append, List.flatMap_cons, List.flatMap_nil, List.append_nil]
    have : (rowsOf b i).length ≤ b := by unfold rowsOf; rw [List.length_map, List.length_range]; omega
    rw [Nat.mul_succ]
    omega
section
variable {K : PySem.W.Frag} {σ : L2.St} {H H' : Hp} {ta : TA} {te tv : TE} {D : Ends} {tz : TS} {d : PyData} {a : Addr} {tab : List (TK × PyData)} {x y : Int} {i : Nat}
/-- [(i, j) for i in range(b) for j in range(i + 1, b)] -/
theorem lc2_pairs {b : Nat} {x1 x4 x5 x6 x7 x8 x9 : Option V} {Q : VK} (hb : b ≤ 100) (k : ∀ p H1, Ex H H1 → H p = none → Prs H1 p (pairsOf b) → Q (.ref p) H1) :
    tLc2 (iRng1 (tCons (tVar 0) tNil)) (gName 2) tYes (iRng2 (tCons (tOp (rPlus K) (tVar 2) (tC (V.int 1))) (tCons (tVar 0) tNil))) (gName 3) tYes (tTup (tCons (tVar 2) (tCons (tVar 3) tNil))) [2, 3] [3] [some (.int (b : Nat)), x1, none, none, x4, x5, x6, x7, x8, x9] H Q := by
  refine ⟨_, rfl, b, rfl, by omega, by omega, fun D hD => ?_⟩
  have hexD : ∀ {G : Hp} {o : HO}, Ex H G → Ex H (upd G D o) := fun {G o} e a u h => by rw [upd_ne (ne_of_none h hD)]; exact e a u h
  let PV : Nat → Nat → Hp → Prop := fun i j H' => Ex H H' ∧ ∃ acc, H' D = some (.lst acc) ∧ PrL H' acc ((List.range i).flatMap (rowsOf b) ++ (rowsOf b i).take j)
  have pz : ∀ {i H'}, PV i 0 H' → Ex H H' ∧ ∃ acc, H' D = some (.lst acc) ∧ PrL H' acc ((List.range i).flatMap (rowsOf b)) := fun {i H'} p => by
    obtain ⟨h1, acc, h2, h3⟩ := p
    rw [List.take_zero, List.append_nil] at h3
    exact ⟨h1, acc, h2, h3⟩
  refine ⟨fun i m H' => m = b - i ∧ i ≤ b ∧ PV i 0 H', ⟨b, by simp, Nat.zero_le _, hexD (Ex.refl _), [], upd_same, .nil⟩, ?_⟩
  rintro i m H' ⟨rfl, hi, p⟩
  by_cases hlt : i < b
  · refine .inr ⟨by simpa [Itr] using hlt, PV (i + 1) 0, fun H2 p' => ⟨b - (i + 1), by omega, rfl, hlt, p'⟩, fun x H2 yl => ?_⟩
    obtain ⟨e1, e2⟩ := yl
    subst e1 e2
    obtain ⟨h1, acc0, h2, h3⟩ := pz p
    have hz : (0 : Int) + (i : Int) = (i : Nat) := by omega
    rw [hz]
    refine ⟨rfl, _, rfl, .inl ⟨_, _, rfl, rfl, _, rfl, _, _, rfl, ⟨by omega, by omega, by omega, by omega⟩, ?_⟩⟩
    have nn : ((b : Int) - ((i : Int) + 1)).toNat = b - (i + 1) := by omega
    have hll := pairs_len b i
    have hrl : (rowsOf b i).length = b - (i + 1) := by unfold rowsOf; rw [List.length_map, List.length_range]
    refine ⟨fun j m H' => m = b - (i + 1) - j ∧ j ≤ b - (i + 1) ∧ PV i j H', ⟨_, rfl, Nat.zero_le _, p⟩, ?_⟩
    rintro j m H3 ⟨rfl, hj, p3⟩
    by_cases hjt : j < b - (i + 1)
    · refine .inr ⟨by show j < _; omega, PV i (j + 1), fun H4 p' => ⟨b - (i + 1) - (j + 1), by omega, rfl, hjt, p'⟩, fun y H4 yl => ?_⟩
      obtain ⟨e3, e4⟩ := yl
      subst e3 e4
      obtain ⟨q1, acc, q2, q3⟩ := p3
      refine ⟨rfl, _, rfl, _, rfl, by show 2 ≤ sizeLine; decide, fun T hT => ?_⟩
      have hll2 := Paired.length q3
      rw [List.length_append, List.length_take] at hll2
      have hbi : b * i ≤ 100 * 100 := Nat.mul_le_mul hb (by omega)
      refine ⟨acc, Ex.new hT _ _ q2, Evl.sz_lt (by omega), hexD (q1.trans (Ex.new hT)), _, upd_same, ?_⟩
      have hr : (rowsOf b i)[j]? = some (i, i + 1 + j) := by
        unfold rowsOf
        rw [List.getElem?_map, List.getElem?_range hjt]
        rfl
      rw [take_snoc hr, ← List.append_assoc]
      refine prs_snoc (Ex.new hT _ _ q2) (prl_map (fun v k h => h.mono (Ex.new hT)) q3) ⟨T, rfl, ?_⟩
      show upd _ T (.tup [.int (i : Nat), .int ((i : Int) + 1 + (j : Int))]) T = _
      rw [upd_same]
      congr 4
    · have e : j = b - (i + 1) := by omega
      subst e
      obtain ⟨q1, acc, q2, q3⟩ := p3
      refine .inl ⟨by show _ ≤ _; omega, q1, acc, q2, ?_⟩
      rw [List.take_zero, List.append_nil, List.range_succ, List.flatMap_append, List.flatMap_cons, List.flatMap_nil, List.append_nil]
      rw [← hrl, List.take_length] at q3
      exact q3
  · have e : i = b := by omega
    subst e
    obtain ⟨h1, acc, h2, h3⟩ := pz p
    exact .inl ⟨by simp [Itr], k D _ h1 hD ⟨acc, h2, h3⟩⟩

/-- {pair: .. for pair in pairs} -/
theorem dc_pairs {g : Nat} {vs : List Nat} {ks : List (Nat × Nat)} {Q : VK} (hp : Prs H a ks) (hv : σ[i]? = some (some (.ref a))) (hn : (ks.map fun k => ky (k.1 : Nat) (k.2 : Nat)).Nodup) (hz : ks.length ≤ 1000) (el : Nat × Nat → PyData) (hno : ∀ k ∈ ks, noL (el k) = true)
    (ht : ∀ k ∈ ks, ∀ v H1, Ex H H1 → TupK H1 v k → wipe ((wipe σ vs).set g (some v)) vs = wipe σ vs ∧ ((wipe σ vs).set g (some v))[g]? = some (some v) ∧ EvD K tv ((wipe σ vs).set g (some v)) H1 (el k))
    (k : ∀ p H1, Ex H H1 → H p = none → Tab K H1 p (ks.map fun k => (ky (k.1 : Nat) (k.2 : Nat), el k)) → Q (.ref p) H1) : tDcT (iSeq K (tVar i)) (gName g) (tVar g) tv vs σ H Q := by
  have hp0 := hp
  obtain ⟨us, h1, h2⟩ := hp
  have hl := Paired.length h2
  refine .inl ⟨.ref a, hv, a, rfl, ⟨us, SqL.of h1⟩, fun D hD => ?_⟩
  have hexD : ∀ {G : Hp} {o : HO}, Ex H G → Ex H (upd G D o) := fun {G o} e a u h => by rw [upd_ne (ne_of_none h hD)]; exact e a u h
  let tb : List (Nat × Nat) → List (TK × PyData) := fun l => l.map fun k => (ky (k.1 : Nat) (k.2 : Nat), el k)
  refine ⟨fun i m H' => m = ks.length - i ∧ i ≤ ks.length ∧ Ex H H' ∧ Tab K H' D (tb (ks.take i)), ⟨_, rfl, Nat.zero_le _, hexD (Ex.refl _), Tab.new upd_same⟩, ?_⟩
  rintro i m H' ⟨rfl, hi, q1, q2⟩
  by_cases hlt : i < ks.length
  · have hk : ks[i]? = some ks[i] := List.getElem?_eq_getElem hlt
    generalize hkk : ks[i] = kk at hk
    have hmem := List.mem_of_getElem? hk
    obtain ⟨v, hv1, hv2⟩ := prl_get h2 hk
    refine .inr ⟨⟨us, v, SqL.of (q1 _ _ h1), hv1⟩, fun H2 => Ex H H2 ∧ Tab K H2 D (tb (ks.take (i + 1))), fun H2 p' => ⟨_, ?_, rfl, hlt, p'⟩, fun x H2 yl => ?_⟩
    · omega
    obtain ⟨e2, yl⟩ := yl
    subst e2
    have e3 := yl us (SqL.of (q1 _ _ h1))
    rw [hv1] at e3
    cases e3
    obtain ⟨w1, w2, w3⟩ := ht kk hmem v H2 q1 (hv2.mono q1)
    refine ⟨w1, v, w2, w3 H2 (Ex.refl _) _ fun z H3 e4 dz => ?_⟩
    have hno2 : ∀ p ∈ tb (ks.take i), noL p.2 = true := fun p hp => by
      obtain ⟨u, hu, rfl⟩ := List.mem_map.mp hp
      exact hno u (List.mem_of_mem_take hu)
    obtain ⟨kvs, t1, t2, t3⟩ := (q2.mono e4).put (k := ky (kk.1 : Nat) (kk.2 : Nat)) hno2 (hno kk hmem) dz
    obtain ⟨b, eb, hb⟩ := hv2.mono (q1.trans e4)
    have tl : (tb (ks.take i)).length ≤ 1000 := by show (List.map _ _).length ≤ _; rw [List.length_map, List.length_take]; omega
    refine ⟨kvs, ky (kk.1 : Nat) (kk.2 : Nat), b, eb, by rw [ky_map]; exact hb, t1, Evl.sz_lt (by omega), hexD (q1.trans e4), ?_⟩
    have : putT (tb (ks.take i)) (ky (kk.1 : Nat) (kk.2 : Nat)) (el kk) = tb (ks.take (i + 1)) := by
      unfold putT
      rw [if_neg, take_snoc hk]
      · show _ = List.map _ _
        rw [List.map_append]
        rfl
      · intro h
        obtain ⟨p, hp, e⟩ := List.any_eq_true.mp h
        have e := of_decide_eq_true e
        obtain ⟨u, hu, rfl⟩ := List.mem_map.mp hp
        obtain ⟨j, hj⟩ := List.mem_iff_getElem?.mp hu
        have hji : j < i := by
          have := (List.getElem?_eq_some_iff.mp hj).1
          rw [List.length_take] at this
          omega
        rw [List.getElem?_take_of_lt hji] at hj
        have n1 : (ks.map fun k => ky (k.1 : Nat) (k.2 : Nat))[j]? = some (ky (kk.1 : Nat) (kk.2 : Nat)) := by
          rw [List.getElem?_map, hj]
          exact congrArg some e
        have n2 : (ks.map fun k => ky (k.1 : Nat) (k.2 : Nat))[i]? = some (ky (kk.1 : Nat) (kk.2 : Nat)) := by
          rw [List.getElem?_map, hk]
          rfl
        obtain ⟨l1, g1⟩ := List.getElem?_eq_some_iff.mp n1
        obtain ⟨l2, g2⟩ := List.getElem?_eq_some_iff.mp n2
        exact List.pairwise_iff_getElem.mp hn j i l1 l2 hji (g1.trans g2.symm)
    rw [← this]
    exact t3
  · have e : i = ks.length := by omega
    subst e
    rw [List.take_length] at q2
    exact .inl ⟨⟨us, SqL.of (q1 _ _ h1), by omega⟩, k D _ q1 hD q2⟩
/-- found[pair] -/
theorem evd_getP {j : Nat} {kk : Nat × Nat} {v : V} (hv : σ[i]? = some (some (.ref a))) (t : Tab K H a tab) (hj : σ[j]? = some (some v)) (hk : TupK H v kk) (hd : lk tab (ky (kk.1 : Nat) (kk.2 : Nat)) = some d) : EvD K (tDGet (tVar i) (tVar j)) σ H d := fun H1 g Q q => by
  obtain ⟨b, rfl, hb⟩ := hk.mono g
  obtain ⟨kvs, w, h1, h2, h3⟩ := (t.mono g).get hd
  exact ⟨_, hv, _, hj, a, w, rfl, by rw [← h2]; exact DGet.t h1 (by rw [ky_map]; exact hb), q w _ (Ex.refl _) h3⟩
theorem et_neT {j : Nat} {b : Addr} {tb : List (TK × PyData)} (hv : σ[i]? = some (some (.ref a))) (hw : σ[j]? = some (some (.ref b))) (t : Tab K H a tab) (u : Tab K H b tb) (hk : tab.length = tb.length → tab.map (·.1) = tb.map (·.1))
    (h1 : ∀ p ∈ tab, SeqAt.shaped p.2 = true) (h2 : ∀ p ∈ tb, SeqAt.shaped p.2 = true) : Evl.EvT (tTest (tOp (rNeT K) (tVar i) (tVar j))) σ H (!(tab.length == tb.length && (tab.map (·.1)).all (eqK tab tb))) := fun H1 g Q q =>
  ⟨_, hv, _, hw, a, b, tab, tb, rfl, rfl, t.mono g, u.mono g, hk, h1, h2, _, rfl, q _ (Ex.refl _)⟩
theorem q_asgT {G : TG} (h : te σ H fun x H1 => G x σ H1 (tz D)) : tSeq (tAsg te G) tz D σ H := h
theorem s_asgT {G : TG} (h : te σ H fun x H1 => G x σ H1 D.nx) : tAsg te G D σ H := h
theorem t_tup2 {tb : TE} {Q : VK} (h : te σ H fun x H1 => tb σ H1 fun y H2 => ∀ p, H2 p = none → Q (.ref p) (upd H2 p (.tup [x, y]))) : tTup (tCons te (tCons tb tNil)) σ H Q := by
  show te σ H fun x H1 => tb σ H1 fun y H2 => ([x, y] : List V).length ≤ sizeLine ∧ ∀ p, H2 p = none → Q (.ref p) (upd H2 p (.tup [x, y]))
  have e : ∀ x y : V, ([x, y] : List V).length ≤ sizeLine := fun x y => by show 2 ≤ sizeLine; decide
  simpa only [e, true_and] using h
variable {tu : TS} {g : TG} {t : TT} in
variable (K) in
theorem s_forR {n : Nat} (h : EvDA K ta σ H [.int (n : Nat)]) (hn : n ≤ 1000000) (k : ∀ H1, Ex H H1 → ∃ Pv : Nat → L2.St → Hp → Prop, Pv 0 σ H1 ∧
    (∀ i σ' H', i < n → Pv i σ' H' → g (.int (i : Nat)) σ' H' fun σ2 H2 => tu { D with nx := Pv (i + 1), ct := Pv (i + 1), bk := D.nx } σ2 H2) ∧ ∀ σ' H', Pv n σ' H' → D.nx σ' H') : tFor (iRng1 ta) g tu D σ H := by
  refine h H (Ex.refl H) _ fun vs H1 e dv => ?_
  obtain ⟨v, rfl, d1⟩ := dpa1 dv
  cases dp_int d1
  obtain ⟨Pv, h0, ht, hd⟩ := k H1 e
  refine ⟨(n : Nat), rfl, by omega, by omega, ?_⟩
  have := @for_range 0 n g tu D σ H1 Pv h0 (fun i σ' H' hi p => by rw [show (0 : Int) + (i : Int) = (i : Nat) by omega]; exact ht i σ' H' hi p) hd
  exact this
variable (K) in
theorem q_augS {i : Nat} {a b : Int} (hx : σ[i]? = some (some (.int a))) (h : EvD K te σ H (.int b)) (k : ∀ H1, Ex H H1 → tz D (σ.set i (some (.int (a - b)))) H1) : tSeq (tAug i te (ipI fun i j => i - j)) tz D σ H :=
  ⟨_, hx, h H (Ex.refl H) _ fun v H1 g dv => ⟨a, b, rfl, dp_int dv, k H1 g⟩⟩
variable (K) in
theorem s_augS {i : Nat} {a b : Int} (hx : σ[i]? = some (some (.int a))) (h : EvD K te σ H (.int b)) (k : ∀ H1, Ex H H1 → D.nx (σ.set i (some (.int (a - b)))) H1) : tAug i te (ipI fun i j => i - j) D σ H :=
  ⟨_, hx, h H (Ex.refl H) _ fun v H1 g dv => ⟨a, b, rfl, dp_int dv, k H1 g⟩⟩
variable {tu : TS} {g : TG} {t : TT} in
variable (K) in
theorem q_forR {n : Nat} (h : EvDA K ta σ H [.int (n : Nat)]) (hn : n ≤ 1000000) (k : ∀ H1, Ex H H1 → ∃ Pv : Nat → L2.St → Hp → Prop, Pv 0 σ H1 ∧
    (∀ i σ' H', i < n → Pv i σ' H' → g (.int (i : Nat)) σ' H' fun σ2 H2 => tu { D with nx := Pv (i + 1), ct := Pv (i + 1), bk := tz D } σ2 H2) ∧ ∀ σ' H', Pv n σ' H' → tz D σ' H') : tSeq (tFor (iRng1 ta) g tu) tz D σ H :=
  s_forR (D := { D with nx := tz D }) K h hn k
end
theorem cr_minK {X : Cx} {K : PySem.W.Frag} (h : X.K = K) (hc : X.calm = true) : CallR X (.builtin "min") (rMin K) := h ▸ cr_min hc
section
variable {K : PySem.W.Frag} {σ : L2.St} {H H' : Hp} {D : Ends} {tu tz : TS} {g : TG} {ds : List PyData} {v : V} {i : Nat}
variable (K) in
/-- for over a list or a tuple that a name holds -/
theorem s_forV {b : Bool} (hv : σ[i]? = some (some v)) (dv : Dp K H v (Seq b ds)) (k : ∃ Pv : Nat → L2.St → Hp → Prop, Pv 0 σ H ∧ (∀ i σ' H', Pv i σ' H' → Dp K H' v (Seq b ds)) ∧
    (∀ i d x σ' H', ds[i]? = some d → Dp K H' x d → Pv i σ' H' → g x σ' H' fun σ2 H2 => tu { D with nx := Pv (i + 1), ct := Pv (i + 1), bk := D.nx } σ2 H2) ∧ ∀ σ' H', Pv ds.length σ' H' → D.nx σ' H') : tFor (iSeq K (tVar i)) g tu D σ H := by
  obtain ⟨Pv, h0, hk, ht, hd⟩ := k
  cases b with
  | true =>
    obtain ⟨a, xs, rfl, h1, h2⟩ := dp_lst dv
    refine .inl ⟨_, hv, a, rfl, ⟨xs, h1⟩, ?_⟩
    refine ⟨fun i m σ' H' => m = ds.length - i ∧ i ≤ ds.length ∧ Pv i σ' H', ⟨ds.length, by simp, Nat.zero_le _, h0⟩, ?_⟩
    rintro i m σ' H' ⟨rfl, hi, p⟩
    obtain ⟨a', ys, ea, k1, k2⟩ := dp_lst (hk i σ' H' p)
    cases ea
    have hl := dpa_len k2
    by_cases hlt : i < ds.length
    · obtain ⟨v, hv, dv⟩ := dpa_get k2 (List.getElem?_eq_getElem hlt)
      refine .inr ⟨⟨ys, v, k1, hv⟩, Pv (i + 1), fun σ2 H2 p' => ⟨ds.length - (i + 1), by omega, rfl, hlt, p'⟩, fun x H2 yl => ?_⟩
      obtain ⟨e2, yl⟩ := yl
      subst e2
      have e3 := yl ys k1
      rw [hv] at e3
      cases e3
      exact ht i _ _ _ _ (List.getElem?_eq_getElem hlt) dv p
    · have e : i = ds.length := by omega
      subst e
      exact .inl ⟨⟨ys, k1, by omega⟩, hd σ' H' p⟩
  | false =>
    obtain ⟨a, xs, rfl, h1, h2⟩ := dp_tup dv
    refine .inr ⟨_, hv, a, rfl, ⟨xs, h1⟩, ?_⟩
    refine ⟨fun i m σ' H' => m = ds.length - i ∧ i ≤ ds.length ∧ Pv i σ' H', ⟨ds.length, by simp, Nat.zero_le _, h0⟩, ?_⟩
    rintro i m σ' H' ⟨rfl, hi, p⟩
    obtain ⟨a', ys, ea, k1, k2⟩ := dp_tup (hk i σ' H' p)
    cases ea
    have hl := dpa_len k2
    by_cases hlt : i < ds.length
    · obtain ⟨v, hv, dv⟩ := dpa_get k2 (List.getElem?_eq_getElem hlt)
      refine .inr ⟨⟨ys, v, k1, hv⟩, Pv (i + 1), fun σ2 H2 p' => ⟨ds.length - (i + 1), by omega, rfl, hlt, p'⟩, fun x H2 yl => ?_⟩
      obtain ⟨e2, yl⟩ := yl
      subst e2
      have e3 := yl ys k1
      rw [hv] at e3
      cases e3
      exact ht i _ _ _ _ (List.getElem?_eq_getElem hlt) dv p
    · have e : i = ds.length := by omega
      subst e
      exact .inl ⟨⟨ys, k1, by omega⟩, hd σ' H' p⟩
variable (K) in
theorem q_forV {b : Bool} (hv : σ[i]? = some (some v)) (dv : Dp K H v (Seq b ds)) (k : ∃ Pv : Nat → L2.St → Hp → Prop, Pv 0 σ H ∧ (∀ i σ' H', Pv i σ' H' → Dp K H' v (Seq b ds)) ∧
    (∀ i d x σ' H', ds[i]? = some d → Dp K H' x d → Pv i σ' H' → g x σ' H' fun σ2 H2 => tu { D with nx := Pv (i + 1), ct := Pv (i + 1), bk := tz D } σ2 H2) ∧ ∀ σ' H', Pv ds.length σ' H' → tz D σ' H') : tSeq (tFor (iSeq K (tVar i)) g tu) tz D σ H :=
  s_forV (D := { D with nx := tz D }) K hv dv k
end
end Bw
end
section
set_option Elab.async false
set_option linter.all false
set_option maxRecDepth 100000
set_option maxHeartbeats 4000000
/-! a source of draws: two lists that change. -/
namespace Bw
open PySem PySem.Spec PyProof.Rows L2 Bfb
/-- the source at a, its great cells at c -/
def Deal (H : Hp) (a c : Addr) : Prop := ∃ (xs : List Int) (m : Int), H a = some (.lst [.ref c, .int m]) ∧ H c = some (.lst (xs.map V.int)) ∧ xs.length ≤ 63
section
variable {K : PySem.W.Frag} {σ : L2.St} {H H1 H' : Hp} {a c p : Addr} {v : V} {d : PyData} {ds : List PyData} {te tb : TE} {Q : VK} {D : Ends} {tz : TS} {i : Nat} {m : Int} {xs : List Int}
theorem Deal.mono (e : Ex H H') (h : Deal H a c) : Deal H' a c := by
  obtain ⟨xs, m, h1, h2, h3⟩ := h
  exact ⟨xs, m, e _ _ h1, e _ _ h2, h3⟩
theorem Deal.lsts (h : Deal H a c) : Lsts [a, c] H := fun b hb => by
  obtain ⟨xs, m, h1, h2, h3⟩ := h
  rcases List.mem_cons.mp hb with z | z
  · rw [z]; exact .inl ⟨_, h1⟩
  · rw [List.mem_singleton.mp z]; exact .inl ⟨_, h2⟩
theorem Deal.ne (h : Deal H a c) : a ≠ c := fun z => by
  obtain ⟨xs, m, h1, h2, h3⟩ := h
  rw [z, h2] at h1
  have := HO.lst.inj (Option.some.inj h1)
  cases xs with
  | nil => cases this
  | cons x xs => cases this
theorem Deal.bts {S : List Addr} (b : Bts S H H') (ha : a ∉ S) (hc : c ∉ S) (h : Deal H a c) : Deal H' a c := by
  obtain ⟨xs, m, h1, h2, h3⟩ := h
  exact ⟨xs, m, b _ _ ha h1, b _ _ hc h2, h3⟩
/-- one that is new is not of the source -/
theorem Deal.nin (h : Deal H a c) (np : H p = none) : p ∉ [a, c] := fun hb => by
  rcases h.lsts p hb with ⟨ys, hy⟩ | ⟨ys, hy⟩ <;> rw [np] at hy <;> cases hy
theorem dealDp (h1 : H a = some (.lst [.ref c, .int m])) (h2 : H c = some (.lst (xs.map V.int))) : Dp K H (.ref a) (.list [.list (xs.map .int), .int m]) := .lst (SqL.of h1) (.cons (.lst (SqL.of h2) (ints_dpa xs)) (.cons (.int _) .nil))
theorem t_ix {j : Nat} {k : Int} {ys : List V} (hv : σ[i]? = some (some (.ref a))) (h : SqL K H a ys) (hj : atI ys k = some v) (q : Q v H) : tOp (rIx K) (tVar i) (tC (.int k)) σ H Q :=
  ⟨_, hv, .inl ⟨a, ys, k, v, rfl, rfl, h, hj, q⟩⟩
/-- source[0].pop() -/
theorem t_popc {x : Int} (hv : σ[i]? = some (some (.ref a))) (h1 : H a = some (.lst [.ref c, .int m])) (h2 : H c = some (.lst (xs.map V.int))) (hx : xs.getLast? = some x) (q : Q (.int x) (upd H c (.lst (xs.dropLast.map V.int)))) :
    tBM0 K "list" rPop (tOp (rIx K) (tVar i) (tC (.int 0))) σ H Q := by
  refine t_ix (j := 0) (v := .ref c) hv (SqL.of h1) rfl ⟨.inl ⟨rfl, _, SqL.of h2⟩, c, _, .int x, rfl, rfl, h2, ?_, ?_⟩
  · rw [List.getLast?_eq_getElem?] at hx
    rw [List.length_map, List.getElem?_map, hx]
    rfl
  · rw [← List.map_dropLast]
    exact q
/-- what draws: any datum that R tells, and the source goes on -/
def EvN (K : PySem.W.Frag) (a c : Addr) (te : TE) (σ : L2.St) (H : Hp) (R : PyData → Prop) : Prop := ∀ H1, Bts [a, c] H H1 → Deal H1 a c → ∀ Q : VK, (∀ v d H2, Bts [a, c] H1 H2 → Deal H2 a c → R d → Dp K H2 v d → Q v H2) → te σ H1 Q
variable {R R' S : PyData → Prop}
theorem evn_of (h : ∀ H1, Bts [a, c] H H1 → EvD K te σ H1 d) : EvN K a c te σ H (fun x => x = d) := fun H1 b dl Q q => h H1 b H1 (Ex.refl _) Q fun v H2 e dv => q v d H2 (Bts.of e) (dl.mono e) rfl dv
theorem evn_mono (h : EvN K a c te σ H R) (hr : ∀ d, R d → R' d) : EvN K a c te σ H R' := fun H1 b dl Q q => h H1 b dl Q fun v d H2 b2 d2 r dv => q v d H2 b2 d2 (hr d r) dv
theorem evn_op {r : R2} {G : PyData → Prop} (hn : ∀ d, R d → noL d = true) (ha : EvN K a c te σ H R) (hb : EvN K a c tb σ H S) (hr : ∀ H1 d e, R d → S e → ∃ f, G f ∧ RD K r H1 d e f) : EvN K a c (tOp r te tb) σ H G := fun H1 b dl Q q =>
  ha H1 b dl _ fun x d H2 b2 d2 rx dx => hb H2 (b.trans b2) d2 _ fun y e H3 b3 d3 ry dy => by
    obtain ⟨f, g, k⟩ := hr H3 d e rx ry
    exact k x y H3 (Ex.refl _) (dp_bts b3 d2.lsts (hn d rx) dx) dy Q fun v H4 e4 dv => q v f H4 ((b2.trans b3).ex e4) (d3.mono e4) g dv
/-- several of them -/
def EvNA (K : PySem.W.Frag) (a c : Addr) (ta : TA) (σ : L2.St) (H : Hp) (R : List PyData → Prop) : Prop := ∀ H1, Bts [a, c] H H1 → Deal H1 a c → ∀ Q : List V → Hp → Prop, (∀ vs ds H2, Bts [a, c] H1 H2 → Deal H2 a c → R ds → DpAll K H2 vs ds → Q vs H2) → ta σ H1 Q
theorem evna_nil : EvNA K a c tNil σ H (fun ds => ds = []) := fun H1 b dl Q q => q [] [] H1 Bts.refl dl rfl .nil
theorem evna_cons {ta : TA} {RA : List PyData → Prop} (hn : ∀ d, R d → noL d = true) (h : EvN K a c te σ H R) (hr : EvNA K a c ta σ H RA) : EvNA K a c (tCons te ta) σ H (fun ds => ∃ d es, ds = d :: es ∧ R d ∧ RA es) := fun H1 b dl Q q =>
  h H1 b dl _ fun x d H2 b2 d2 rx dx => hr H2 (b.trans b2) d2 _ fun xs es H3 b3 d3 rs dxs => q _ (d :: es) H3 (b2.trans b3) d3 ⟨d, es, rfl, rx, rs⟩ (.cons (dp_bts b3 d2.lsts (hn d rx) dx) dxs)
theorem evna_mono {ta : TA} {RA RB : List PyData → Prop} (h : EvNA K a c ta σ H RA) (hr : ∀ d, RA d → RB d) : EvNA K a c ta σ H RB := fun H1 b dl Q q => h H1 b dl Q fun v d H2 b2 d2 r dv => q v d H2 b2 d2 (hr d r) dv
theorem evn_tup {ta : TA} {RA : List PyData → Prop} (h : EvNA K a c ta σ H RA) (hl : ∀ ds, RA ds → ds.length ≤ 100000) : EvN K a c (tTup ta) σ H (fun d => ∃ ds, d = .tuple ds ∧ RA ds) := fun H1 b dl Q q =>
  h H1 b dl _ fun vs ds H2 b2 d2 rs dvs => ⟨by rw [dpa_len dvs]; exact Evl.sz_of (hl ds rs), fun p np => q _ _ _ (b2.ex (Ex.new np)) (d2.mono (Ex.new np)) ⟨ds, rfl, rs⟩ (.tup (SqT.of upd_same) (dpa_ex (Ex.new np) dvs))⟩
end
/-! all of one kind -/
section
variable {K : PySem.W.Frag} {σ : L2.St} {H : Hp} {a c : Addr} {te : TE} {ta : TA} {P : PyData → Prop} {n : Nat} {d : PyData}
theorem evna_nilP : EvNA K a c tNil σ H (fun ds => ds.length = 0 ∧ ∀ d ∈ ds, P d) := evna_mono evna_nil fun ds h => by subst h; exact ⟨rfl, fun _ h => nomatch h⟩
theorem evna_consP (hn : ∀ d, P d → noL d = true) (h : EvN K a c te σ H P) (hr : EvNA K a c ta σ H (fun ds => ds.length = n ∧ ∀ d ∈ ds, P d)) : EvNA K a c (tCons te ta) σ H (fun ds => ds.length = n + 1 ∧ ∀ d ∈ ds, P d) :=
  evna_mono (evna_cons hn h hr) fun ds ⟨d, es, e, hd, hl, ha⟩ => by
    subst e
    exact ⟨by rw [List.length_cons, hl], fun x hx => (List.mem_cons.mp hx).elim (fun z => by rw [z]; exact hd) (ha x)⟩
theorem evn_ofP (h : ∀ H1, Bts [a, c] H H1 → EvD K te σ H1 d) (hp : P d) : EvN K a c te σ H P := evn_mono (evn_of h) fun x e => by rw [e]; exact hp
end
def NatLe (m : Nat) (d : PyData) : Prop := ∃ j : Nat, j ≤ m ∧ d = .int (j : Nat)
theorem natLe_noL {m : Nat} (d : PyData) (h : NatLe m d) : noL d = true := by
  obtain ⟨j, _, rfl⟩ := h
  rfl
/-! ### the promises of the two draws -/
def spAny : Sp := fun vs H Q _ => ∃ (a c : Addr) (n : Nat), vs = [.ref a, .int (n : Nat)] ∧ 0 < n ∧ n < 1000000 ∧ Deal H a c ∧ ∀ (i : Nat) H', i < n → Bts [a, c] H H' → Deal H' a c → Q (.int (i : Nat)) H'
def spOf (K : PySem.W.Frag) : Sp := fun vs H Q _ => ∃ (a c q : Addr) (ys : List V), vs = [.ref a, .ref q] ∧ SqL K H q ys ∧ q ∉ [a, c] ∧ 0 < ys.length ∧ ys.length < 1000000 ∧ Deal H a c ∧ ∀ (i : Nat) v H', ys[i]? = some v → Bts [a, c] H H' → Deal H' a c → Q v H'
def spDraw (K : PySem.W.Frag) : Sp := fun vs H Q _ => ∃ (q : Addr) (ns : List Int), vs = [.ref q, .int 45] ∧ SqL K H q (ns.map V.int) ∧ ns.length ≤ 63 ∧ ∀ a c H', H a = none → H c = none → Ex H H' → Deal H' a c → Q (.ref a) H'
section
variable {K : PySem.W.Frag} {σ : L2.St} {H H1 H' : Hp} {a c p : Addr} {v : V} {d : PyData} {ds : List PyData} {te tb : TE} {Q : VK} {E : XK} {n i : Nat} {D : Ends} {tz : TS}
theorem t_cons {ta : TA} {Q : List V → Hp → Prop} (h : te σ H fun x H1 => ta σ H1 fun xs H2 => Q (x :: xs) H2) : tCons te ta σ H Q := h
theorem t_nil {Q : List V → Hp → Prop} (h : Q [] H) : tNil σ H Q := h
theorem t_c (q : Q v H) : tC v σ H Q := q
theorem t_v (hv : σ[i]? = some (some v)) (q : Q v H) : tVar i σ H Q := ⟨v, hv, q⟩
theorem t_dn (q : ∀ p, H p = none → Q (.ref p) (upd H p (.dT []))) : tDNewT σ H Q := q
theorem t_lst {ta : TA} (h : ta σ H fun vs H1 => vs.length ≤ sizeLine ∧ ∀ p, H1 p = none → Q (.ref p) (upd H1 p (.lst vs))) : tLst ta σ H Q := h
theorem t_tup {ta : TA} (h : ta σ H fun vs H1 => vs.length ≤ sizeLine ∧ ∀ p, H1 p = none → Q (.ref p) (upd H1 p (.tup vs))) : tTup ta σ H Q := h
/-- list(e), and where it stands -/
theorem t_listOf (h : EvD K te σ H (.list ds)) (k : ∀ l ys H1, Ex H H1 → H1 l = none → DpAll K H1 ys ds → Q (.ref l) (upd H1 l (.lst ys))) :
    tCB (fun xs H Q => ∃ p ys, xs = [.ref p] ∧ (SqL K H p ys ∨ SqT K H p ys) ∧ ∀ l, H l = none → Q (.ref l) (upd H l (.lst ys))) (tCons te tNil) σ H Q :=
  h H (Ex.refl _) _ fun v H1 e dv => by
    obtain ⟨p, xs, rfl, h1, h2⟩ := dp_lst dv
    exact ⟨p, xs, rfl, .inl h1, fun l nl => k l xs H1 e nl h2⟩
theorem dpa_rep {x : V} (h : Dp K H x d) : ∀ n, DpAll K H (List.replicate n [x]).flatten (List.replicate n d)
  | 0 => .nil
  | n + 1 => by
    rw [List.replicate_succ, List.flatten_cons, List.replicate_succ]
    exact .cons h (dpa_rep h n)
theorem t_op {r : R2} (h : te σ H fun x H1 => tb σ H1 fun y H2 => r x y H2 Q) : tOp r te tb σ H Q := h
theorem t_call1 {sp : Sp} {ta : TA} (h : ta σ H fun xs H1 => sp (xs ++ []) H1 Q E) : tCall sp [] E ta σ H Q := h
theorem s_retT (h : te σ H D.rt) : tRet te D σ H := h
theorem t_lst2 (h : te σ H fun x H1 => tb σ H1 fun y H2 => ∀ p, H2 p = none → Q (.ref p) (upd H2 p (.lst [x, y]))) : tLst (tCons te (tCons tb tNil)) σ H Q := by
  show te σ H fun x H1 => tb σ H1 fun y H2 => ([x, y] : List V).length ≤ sizeLine ∧ ∀ p, H2 p = none → Q (.ref p) (upd H2 p (.lst [x, y]))
  have e : ∀ x y : V, ([x, y] : List V).length ≤ sizeLine := fun x y => by show 2 ≤ sizeLine; decide
  simpa only [e, true_and] using h
theorem t_revL (h : te σ H fun x H1 => ∃ a xs, x = .ref a ∧ SqL K H1 a xs ∧ ∀ p, H1 p = none → Q (.ref p) (upd H1 p (.lst xs.reverse))) : tRevL K te σ H Q := h
theorem sql_bts {S : List Addr} {ys : List V} (b : Bts S H H') (hp : p ∉ S) (h : SqL K H p ys) : SqL K H' p ys := by
  rcases h with (h1 | ⟨o, h1⟩) | h1
  · exact .inl (.inl (b _ _ hp h1))
  · exact .inl (.inr ⟨o, b _ _ hp h1⟩)
  · exact .inr h1
theorem evn_any (hv : σ[i]? = some (some (.ref a))) (h0 : 0 < n) (h1 : n < 1000000) (h : ∀ H1, Bts [a, c] H H1 → EvD K te σ H1 (.int (n : Nat))) : EvN K a c (tCall spAny [] E (tCons (tVar i) (tCons te tNil))) σ H (fun d => ∃ j : Nat, j < n ∧ d = .int (j : Nat)) := fun H1 b dl Q q =>
  ⟨_, hv, h H1 b H1 (Ex.refl _) _ fun x H2 e2 dx => by
    cases dp_int dx
    exact ⟨a, c, n, rfl, h0, h1, dl.mono e2, fun j H3 hj b3 d3 => q _ _ H3 ((Bts.of e2).trans b3) d3 ⟨j, hj, rfl⟩ (.int _)⟩⟩
/-- of a list that is made for it, of things without lists -/
theorem evn_ofL {ta : TA} {RA : List PyData → Prop} (hv : σ[i]? = some (some (.ref a))) (h : EvNA K a c ta σ H RA) (hr : ∀ ds, RA ds → 0 < ds.length ∧ ds.length ≤ 1000 ∧ noLs ds = true) :
    EvN K a c (tCall (spOf K) [] E (tCons (tVar i) (tCons (tLst ta) tNil))) σ H (fun d => ∃ ds, RA ds ∧ d ∈ ds) := fun H1 b dl Q q =>
  ⟨_, hv, h H1 b dl _ fun vs ds H2 b2 d2 rs dvs => by
    obtain ⟨l1, l2, l3⟩ := hr ds rs
    have hl := dpa_len dvs
    refine ⟨by rw [hl]; exact Evl.sz_of (by omega), fun p np => ⟨a, c, p, vs, rfl, SqL.of upd_same, d2.nin np, by omega, by omega, d2.mono (Ex.new np), fun j v H3 hj b3 d3 => ?_⟩⟩
    obtain ⟨e, he, de⟩ := dpa_get' (dpa_bts b3 (d2.mono (Ex.new np)).lsts l3 (dpa_ex (Ex.new np) dvs)) hj
    exact q v e H3 ((b2.ex (Ex.new np)).trans b3) d3 ⟨ds, rs, List.mem_of_getElem? he⟩ de⟩
/-- of a list that a name holds -/
theorem evn_ofV {j : Nat} {q : Addr} (hv : σ[i]? = some (some (.ref a))) (hw : σ[j]? = some (some (.ref q))) (hd : Dp K H (.ref q) (.list ds)) (hq : q ∉ [a, c]) (hl : Lsts [a, c] H) (h0 : 0 < ds.length) (h1 : ds.length ≤ 1000) (hn : noLs ds = true) :
    EvN K a c (tCall (spOf K) [] E (tCons (tVar i) (tCons (tVar j) tNil))) σ H (fun d => d ∈ ds) := fun H1 b dl Q k => by
  obtain ⟨p, xs, e, g1, g2⟩ := dp_lst (dpl_bts b hl hn hd hq)
  cases e
  have hll := dpa_len g2
  refine ⟨_, hv, _, hw, a, c, q, xs, rfl, g1, hq, by omega, by omega, dl, fun m v H3 hj b3 d3 => ?_⟩
  obtain ⟨e, he, de⟩ := dpa_get' (dpa_bts b3 dl.lsts hn g2) hj
  exact k v e H3 b3 d3 (List.mem_of_getElem? he) de
/-! ### statements that draw -/
theorem bts_new {S : List Addr} {H0 H1 H2 : Hp} (b : Bts S H0 H1) (b2 : Bts (p :: S) H1 H2) (np : H0 p = none) : Bts S H0 H2 := fun x o hx e => b2 x o (fun z => by
  rcases List.mem_cons.mp z with z | z
  · rw [z, np] at e; cases e
  · exact hx z) (b x o hx e)
theorem Own.mk' {es : List PyData} {acc : List V} (h : H p = some (.lst acc)) (hs : DpAll K H acc es) : Own K H p es := ⟨⟨acc, h, hs⟩⟩
variable {ta : TA} {R : PyData → Prop} {RA : List PyData → Prop} {tu : TS} {g : TG} {es : List PyData} {e : PyData} {tw : TS}
variable (K) in
theorem q_forRN {N0 : Nat} (dl : Deal H a c) (h : EvNA K a c ta σ H (fun ds => ∃ n : Nat, n ≤ N0 ∧ ds = [.int (n : Nat)])) (hz : N0 ≤ 1000000) (k : ∀ (n : Nat) H1, n ≤ N0 → Bts [a, c] H H1 → Deal H1 a c → ∃ Pv : Nat → L2.St → Hp → Prop, Pv 0 σ H1 ∧
    (∀ i σ' H', i < n → Pv i σ' H' → g (.int (i : Nat)) σ' H' fun σ2 H2 => tu { D with nx := Pv (i + 1), ct := Pv (i + 1), bk := tz D } σ2 H2) ∧ ∀ σ' H', Pv n σ' H' → tz D σ' H') : tSeq (tFor (iRng1 ta) g tu) tz D σ H := by
  refine h H Bts.refl dl _ fun vs ds H1 b d1 hr dv => ?_
  obtain ⟨n, hn, rfl⟩ := hr
  obtain ⟨v, rfl, dv1⟩ := dpa1 dv
  cases dp_int dv1
  obtain ⟨Pv, h0, ht, hd⟩ := k n H1 hn b d1
  refine ⟨(n : Nat), rfl, by omega, by omega, ?_⟩
  have := @for_range 0 n g tu { D with nx := tz D } σ H1 Pv h0 (fun i σ' H' hi p => by rw [show (0 : Int) + (i : Int) = (i : Nat) by omega]; exact ht i σ' H' hi p) hd
  exact this
variable (K) in
theorem q_parN {i j : Nat} {R' : PyData → Prop} (dl : Deal H a c) (hn : ∀ d, R d → noL d = true) (h : EvN K a c te σ H R) (h' : EvN K a c tb σ H R') (k : ∀ v w d e H1, Bts [a, c] H H1 → Deal H1 a c → R d → R' e → Dp K H1 v d → Dp K H1 w e → tz D ((σ.set i (some v)).set j (some w)) H1) : tSeq (tPar i j (tCons te (tCons tb tNil))) tz D σ H :=
  h H Bts.refl dl _ fun v d H1 b1 d1 r1 dv => h' H1 b1 d1 _ fun w e H2 b2 d2 r2 dw => ⟨v, w, rfl, k v w d e H2 (b1.trans b2) d2 r1 r2 (dp_bts b2 d1.lsts (hn d r1) dv) dw⟩
variable (K) in
theorem s_setN {i : Nat} (dl : Deal H a c) (h : EvN K a c te σ H R) (k : ∀ v d H1, Bts [a, c] H H1 → Deal H1 a c → R d → Dp K H1 v d → D.nx (σ.set i (some v)) H1) : tAsg te (gName i) D σ H := h H Bts.refl dl _ k
variable (K) in
theorem q_setN {i : Nat} (dl : Deal H a c) (h : EvN K a c te σ H R) (k : ∀ v d H1, Bts [a, c] H H1 → Deal H1 a c → R d → Dp K H1 v d → tz D (σ.set i (some v)) H1) : tSeq (tAsg te (gName i)) tz D σ H := h H Bts.refl dl _ k
variable (K) in
theorem s_appN {i : Nat} (dl : Deal H a c) (ho : Own K H p es) (hp : p ∉ [a, c]) (hv : σ[i]? = some (some (.ref p))) (hn : noLs es = true) (hd : ∀ d, R d → noL d = true) (hz : es.length < 100000) (h : EvN K a c te σ H R) (k : ∀ d H1, R d → Bts (p :: [a, c]) H H1 → Deal H1 a c → Own K H1 p (es ++ [d]) → D.nx σ H1) :
    tDrop (tBM K "list" rAppend (tVar i) (tCons te tNil)) D σ H := by
  obtain ⟨acc, h1, h2⟩ := ho.ex
  refine ⟨_, hv, Or.inl ⟨rfl, acc, SqL.of h1⟩, h H Bts.refl dl _ fun v d H1 b1 d1 r1 dv => ?_⟩
  have o1 := ho.bts b1 dl.lsts hn hp
  have g1 := b1 _ _ hp h1
  have b : Bts [p] H1 (upd H1 p (.lst (acc ++ [v]))) := Bts.upd List.mem_cons_self
  have hp1 : a ∉ [p] := fun z => hp (by rw [List.mem_singleton.mp z]; simp)
  have hp2 : c ∉ [p] := fun z => hp (by rw [List.mem_singleton.mp z]; simp)
  refine ⟨p, acc, v, rfl, rfl, g1, Evl.sz_lt (by rw [dpa_len h2]; exact hz), k d _ r1 ((b1.mono fun x hx => List.mem_cons_of_mem _ hx).trans (Bts.upd List.mem_cons_self)) (d1.bts b hp1 hp2) ⟨_, upd_same, dpa_app (dpa_bts b (lsts1 o1) hn (dpa_bts b1 dl.lsts hn h2)) (.cons (dp_bts b (lsts1 o1) (hd d r1) dv) .nil)⟩⟩
end
end Bw
end
section
set_option Elab.async false
set_option linter.all false
set_option maxRecDepth 100000
set_option maxHeartbeats 4000000
/-! a dict whose keys are pairs of tuples of numbers, its values numbers. -/
namespace Bw
open PySem PySem.Spec PyProof.Rows L2
def numN (n : Nat) : PyData := .int (n : Nat)
def tupI (f : List Nat) : PyData := .tuple (f.map numN)
def PairF (f g : List Nat) : PyData := .tuple [tupI f, tupI g]
def nkT (f : List Nat) : NestedKey := .tup (f.map fun n => .num (n : Nat))
def NK (f g : List Nat) : NestedKey := .tup [nkT f, nkT g]
theorem noLsI (f : List Nat) : noLs (f.map numN) = true := noLs_all fun d hd => by
  obtain ⟨n, _, rfl⟩ := List.mem_map.mp hd
  rfl
theorem noPairF (f g : List Nat) : noL (PairF f g) = true := by
  show (noLs (f.map numN) && (noLs (g.map numN) && true)) = true
  rw [noLsI, noLsI]; rfl
theorem nkT_inj {f g : List Nat} (h : nkT f = nkT g) : f = g := by
  have h := NestedKey.tup.inj h
  have : ∀ p q : List Nat, (p.map fun n => NestedKey.num (n : Nat)) = (q.map fun n => NestedKey.num (n : Nat)) → p = q := fun p => by
    induction p with
    | nil => intro q h; cases q with
      | nil => rfl
      | cons => cases h
    | cons x p ih => intro q h; cases q with
      | nil => cases h
      | cons y q =>
        rw [List.map_cons, List.map_cons] at h
        injection h with h4 h5
        have h6 := NestedKey.num.inj h4
        rw [ih q h5, show x = y by omega]
  exact this _ _ h
theorem NK_inj {f g f' g' : List Nat} (h : NK f g = NK f' g') : f = f' ∧ g = g' := by
  have h := NestedKey.tup.inj h
  injection h with h1 h2
  injection h2 with h3 h4
  exact ⟨nkT_inj h1, nkT_inj h3⟩
theorem vals_dpa {K : PySem.W.Frag} {H : Hp} (h : Heap) : ∀ {f : List Nat} {xs : List V} {its : List Value}, DpAll K H xs (f.map numN) → Vals xs its → NestedAll h (f.map fun n => .num (n : Nat)) its
  | [], _, _, .nil, r => by cases r; exact .nil
  | n :: f, _, _, .cons d ds, r => by
    have d : Dp K H _ (.int (n : Nat)) := d
    cases dp_int d
    cases r with
    | @cons a b as bs r1 rs =>
      obtain ⟨t, rfl⟩ := (show ∃ t, b = Value.int (n : Nat) t from r1)
      exact .cons (.int _ _) (vals_dpa h ds rs)
section
variable {X : Cx} {pins : List (Addr × Obj)} {σ : L2.St} {H : Hp} {s : Shared} {a b : Addr} {f g : List Nat} {v : V} {u : Value}
theorem nested_row (I : Inv X pins σ H s) (h : Dp X.K H v (tupI f)) (r : RelV v u) : NestedIs s.heap (nkT f) u := by
  obtain ⟨b, xs, rfl, h1, h2⟩ := dp_tup h
  obtain ⟨its, r1, ⟨o, e, c, n, d⟩, _⟩ := I.tuple h1
  cases (show u = Value.ref b from r)
  exact .tup e c d (by simpa using vals_dpa s.heap h2 r1)
theorem nk_of (I : Inv X pins σ H s) (h : Dp X.K H (.ref b) (PairF f g)) : (nestedKind X.prog X.w).is s.heap (NK f g) b := by
  obtain ⟨b', xs, e, h1, h2⟩ := dp_tup h
  cases e
  obtain ⟨its, r1, ⟨o, e, c, n, d⟩, _⟩ := I.tuple h1
  obtain ⟨v1, v2, rfl, d1, d2⟩ := dpa2 h2
  cases r1 with
  | @cons _ u1 _ _ ra rb =>
    cases rb with
    | @cons _ u2 _ _ rc rd =>
      cases rd
      refine ⟨.tup e c d (.cons (nested_row I d1 ra) (.cons (nested_row I d2 rc) .nil)), ?_⟩
      have q : ∀ l : List Nat, NestedKey.depthAll (l.map fun n => NestedKey.num (n : Nat)) = 0 := fun l => by
        induction l with
        | nil => rfl
        | cons x l ih => rw [List.map_cons, NestedKey.depthAll, ih]; rfl
      show (NestedKey.tup [.tup _, .tup _]).depth ≤ 8
      simp only [NestedKey.depth, NestedKey.depthAll, q]
      omega
end
abbrev NEnt := List Nat × List Nat × Addr × Nat
def nRel (x : NEnt) (y : NestedKey × Addr × Value) : Prop := y.1 = NK x.1 x.2.1 ∧ y.2.1 = x.2.2.1 ∧ ∃ t, y.2.2 = Value.int (x.2.2.2 : Nat) t
/-- the dict at a -/
def ND (P : Program) (w : World) (a : Addr) (xs : List NEnt) : HO := .ext fun h => (a == sysModules) = false ∧ ∃ ys : List (NestedKey × Addr × Value), Paired nRel xs ys ∧ ∃ o es ep, h.get? a = some o ∧ o.ExactDict ∧ o.data = .dict es ep ∧ es.toList = ys.map (entryOfKey (nestedKind P w)) ∧ (ys.map (·.1)).Nodup
def NDict (K : PySem.W.Frag) (P : Program) (w : World) (H : Hp) (a : Addr) (xs : List NEnt) : Prop := H a = some (ND P w a xs) ∧ ∀ x ∈ xs, Dp K H (.ref x.2.2.1) (PairF x.1 x.2.1)
def hasN (xs : List NEnt) (f g : List Nat) : Bool := xs.any fun z => decide (z.1 = f) && decide (z.2.1 = g)
section
variable {K : PySem.W.Frag} {P : Program} {w : World} {H H' : Hp} {a : Addr} {xs : List NEnt}
theorem NDict.mono (e : Ex H H') (h : NDict K P w H a xs) : NDict K P w H' a xs := ⟨e _ _ h.1, fun x hx => dp_ex e (h.2 x hx)⟩
theorem NDict.bts {S : List Addr} (b : Bts S H H') (hl : Lsts S H) (h : NDict K P w H a xs) : NDict K P w H' a xs := by
  refine ⟨b _ _ (fun z => ?_) h.1, fun x hx => dp_bts b hl (noPairF _ _) (h.2 x hx)⟩
  rcases hl a z with ⟨ys, hy⟩ | ⟨ys, hy⟩ <;> (rw [h.1] at hy; exact nomatch (Option.some.inj hy))
theorem ND_ok {h : Heap} {ys : List (NestedKey × Addr × Value)} {o : Obj} {es : Array DictEntry} {ep : Nat} (hs : (a == sysModules) = false) (r : Paired nRel xs ys) (ho : h.get? a = some o) (hc : o.ExactDict) (hd : o.data = .dict es ep) (he : es.toList = ys.map (entryOfKey (nestedKind P w))) (hn : (ys.map (·.1)).Nodup) : ObjOk P w H h a (ND P w a xs) :=
  ⟨⟨hs, ys, r, o, es, ep, ho, hc, hd, he, hn⟩, ⟨o, ho⟩, fun h1 h2 ⟨hs, ys, r, o, es, ep, ho, q⟩ st => ⟨hs, ys, r, o, es, ep, st _ ho, q⟩⟩
/-- {}, to be such a dict -/
def tDNewN (P : Program) (w : World) : TE := fun _ H Q => ∀ p, H p = none → Q (.ref p) (upd H p (ND P w p []))
theorem paired_find {ys : List (NestedKey × Addr × Value)} {f g : List Nat} (r : Paired nRel xs ys) : (atKey ys (NK f g)).isSome = hasN xs f g := by
  induction r with
  | nil => rfl
  | @cons x y xs ys h t ih =>
    obtain ⟨h1, h2, t, h3⟩ := h
    unfold atKey hasN at *
    rw [List.find?_cons, List.any_cons]
    by_cases e : x.1 = f ∧ x.2.1 = g
    · rw [decide_eq_true (show y.1 = NK f g by rw [h1, e.1, e.2]), decide_eq_true e.1, decide_eq_true e.2]
      rfl
    · rw [decide_eq_false (show ¬ y.1 = NK f g from fun z => e (NK_inj (h1.symm.trans z)))]
      have : (decide (x.1 = f) && decide (x.2.1 = g)) = false := by
        rw [← Bool.decide_and]; exact decide_eq_false e
      rw [this]
      exact ih
theorem paired_get {ys : List (NestedKey × Addr × Value)} {x : NEnt} (r : Paired nRel xs ys) (hn : (ys.map (·.1)).Nodup) (hx : x ∈ xs) : ∃ p : Addr × Value, atKey ys (NK x.1 x.2.1) = some p ∧ ∃ t, p.2 = Value.int (x.2.2.2 : Nat) t := by
  induction r with
  | nil => cases hx
  | @cons z y xs ys h t ih =>
    obtain ⟨h1, h2, tk, h3⟩ := h
    rw [List.map_cons, List.nodup_cons] at hn
    unfold atKey at *
    rw [List.find?_cons]
    rcases List.mem_cons.mp hx with rfl | hx
    · rw [decide_eq_true h1]
      exact ⟨_, rfl, tk, h3⟩
    · obtain ⟨p, hp, q⟩ := ih hn.2 hx
      have : y.1 ≠ NK x.1 x.2.1 := fun z => hn.1 (by
        obtain ⟨u, hu, _⟩ := Option.map_eq_some_iff.mp hp
        have m1 := List.mem_of_find?_eq_some hu
        have m2 := of_decide_eq_true (List.find?_some (p := fun q : NestedKey × Addr × Value => decide (q.1 = NK x.1 x.2.1)) hu)
        exact List.mem_map.mpr ⟨u, m1, m2.trans z.symm⟩)
      rw [decide_eq_false this]
      exact ⟨p, hp, q⟩
theorem paired_all {ys : List (NestedKey × Addr × Value)} (r : Paired nRel xs ys) : ∀ y ∈ ys, ∃ x ∈ xs, nRel x y := by
  induction r with
  | nil => intro y hy; cases hy
  | @cons x z xs ys h t ih =>
    intro y hy
    rcases List.mem_cons.mp hy with rfl | hy
    · exact ⟨x, List.mem_cons_self, h⟩
    · obtain ⟨x', hx', r⟩ := ih y hy
      exact ⟨x', List.mem_cons_of_mem _ hx', r⟩
end
section
variable {X : Cx} {pins : List (Addr × Obj)} {σ : L2.St} {H : Hp} {s : Shared} {a : Addr} {xs : List NEnt} {pos : Pos}
theorem nd_of (I : Inv X pins σ H s) (h : NDict X.K X.prog X.w H a xs) : (a == sysModules) = false ∧ ∃ ys, Paired nRel xs ys ∧ s.heap.DictOfH (nestedKind X.prog X.w) a ys := by
  obtain ⟨⟨hs, ys, r, o, es, ep, ho, hc, hd, he, hn⟩, _, _⟩ := I.hok a _ h.1
  refine ⟨hs, ys, r, o, es, ep, ho, hc, hd, he, fun y hy => ?_, hn⟩
  obtain ⟨x, hx, h1, h2, _⟩ := paired_all r y hy
  rw [h1, h2]
  exact nk_of I (h.2 x hx)
theorem pe_dnewN {P : Program} {w : World} (hP : X.prog = P) (hw : X.w = w) : PE X (.Dict [] [] pos) (tDNewN P w) := by
  subst hP hw
  exact ⟨fun pins s σ H Q I h => wpAny_Dict_empty ⟨.ref s.heap.objs.size, _, I.laid (a := s.heap.objs.size) (o := ND X.prog X.w s.heap.objs.size []) (t' := s.toks) (fun _ _ q => Heap.get?_push_of_some _ q) (Nat.le_refl _)
    (ND_ok (es := #[]) (ep := 0) (beq_eq_false_iff_ne.mpr (Ne.symm (Nat.ne_of_lt I.big))) .nil (Heap.get?_push_size _ rfl) ⟨rfl, rfl, rfl⟩ rfl rfl List.nodup_nil), rfl, h _ (I.hok.fresh (Nat.le_refl _))⟩⟩
/-- a pair not in the dict -/
def rNotInN (K : PySem.W.Frag) (P : Program) (w : World) : R2 := fun x y H Q => ∃ (b a : Addr) (f g : List Nat) (xs : List NEnt), x = .ref b ∧ y = .ref a ∧ Dp K H (.ref b) (PairF f g) ∧ NDict K P w H a xs ∧ Q (.bl (!hasN xs f g)) H
theorem op_notinN {K : PySem.W.Frag} {P : Program} {w : World} (hu : X.A.units + 64 < cLine) (hK : X.K = K) (hP : X.prog = P) (hw : X.w = w) : OpR X (compareOp .NotIn) (rNotInN K P w) := by
  subst hK hP hw
  intro pins s σ H x y v u Q I rx ry h
  obtain ⟨b, a, f, g, xs, rfl, rfl, hb, ha, q⟩ := h
  cases rx
  cases ry
  obtain ⟨hs, ys, r, hd⟩ := nd_of I ha
  refine notIn_keyed (knd := nestedKind X.prog X.w) (kvs := pairsH ys) (k := NK f g) (by show X.A.units + 1 + 8 < cLine; omega) (nk_of I hb) hs ⟨ys, hd, rfl⟩ ⟨.bl (!hasN xs f g), H, I.tok _, ?_, q⟩
  rw [valueAt_pairsH, Option.isSome_map, paired_find r]
  rfl
def tDGetN (K : PySem.W.Frag) (P : Program) (w : World) (td ty : TE) : TE := fun σ H Q => td σ H fun x H1 => ty σ H1 fun y H2 => ∃ (a : Addr) (xs : List NEnt) (e : NEnt) (b : Addr), x = .ref a ∧ y = .ref b ∧ NDict K P w H2 a xs ∧ Dp K H2 (.ref b) (PairF e.1 e.2.1) ∧ e ∈ xs ∧ Q (.int (e.2.2.2 : Nat)) H2
theorem pe_dgetN {K : PySem.W.Frag} {P : Program} {w : World} {o i : Expr} {td ty : TE} (hu : X.A.units + 64 < cLine) (hK : X.K = K) (hP : X.prog = P) (hw : X.w = w) (ho : PE X o td) (hi : PE X i ty) (hs : NoSl i) : PE X (.Subscript o i pos) (tDGetN K P w td ty) := by
  subst hK hP hw
  refine ⟨fun pins s σ H Q I h => ?_⟩
  refine subD_of PySem.F.slot_dict_getitem.lookup hs (thn (ho.run pins s σ H _ I h) fun u s1 ⟨x, H1, I1, rx, q1⟩ => thn (hi.run pins s1 σ H1 _ I1 q1) fun iv s2 ⟨y, H2, I2, ry, a, xs, e, b, ex, ey, g, hb, he, q2⟩ => ?_)
  subst ex ey
  cases rx
  cases ry
  obtain ⟨hs, ys, r, hd⟩ := nd_of I2 g
  obtain ⟨p, hp, t, ht⟩ := paired_get r (by obtain ⟨_, _, _, _, _, _, _, _, hn⟩ := hd; exact hn) he
  refine ⟨hd.typeIs, wpAny_getItem_heap (knd := nestedKind X.prog X.w) (by show X.A.units + 1 + 8 < cLine; omega) (nk_of I2 hb) hd hp ?_⟩
  rw [ht]
  exact ⟨.int (e.2.2.2 : Nat), H2, I2.tok _, ⟨t, rfl⟩, q2⟩
/-- d[y] = n, y a new pair -/
def sDPutN (K : PySem.W.Frag) (P : Program) (w : World) (td ty tv : TE) : TS := fun D σ H => tv σ H fun v H1 => td σ H1 fun x H2 => ty σ H2 fun y H3 => ∃ (a b : Addr) (xs : List NEnt) (f g : List Nat) (n : Nat), x = .ref a ∧ y = .ref b ∧ v = .int (n : Nat) ∧ NDict K P w H3 a xs ∧ Dp K H3 (.ref b) (PairF f g) ∧ hasN xs f g = false ∧ xs.length < 100000 ∧ D.nx σ (upd H3 a (ND P w a (xs ++ [(f, g, b, n)])))
theorem ps_dputN {K : PySem.W.Frag} {P : Program} {w : World} {o i value : Expr} {td ty tv : TE} {pos' : Pos} (hu : X.A.units + 64 < cLine) (hK : X.K = K) (hP : X.prog = P) (hw : X.w = w) (ho : PE X o td) (hi : PE X i ty) (hv : PE X value tv) (hs : swapsWith value (some (.Subscript o i pos')) pos.line X.env = pure false) :
    PS X (.Assign [.Subscript o i pos'] value pos) (sDPutN K P w td ty tv) := by
  subst hK hP hw
  refine ⟨fun pins s σ H D I h => ?_⟩
  refine wpAny_Assign_Subscript (thn (hv.run pins s σ H _ I h) fun r s1 ⟨v, H1, I1, rv, q1⟩ => thn (ho.run pins s1 σ H1 _ I1 q1) fun u s2 ⟨x, H2, I2, rx, q2⟩ => thn (hi.run pins s2 σ H2 _ I2 q2) fun iv s3 ⟨y, H3, I3, ry, a, b, xs, f, g, n, ex, ey, ev, hd, hb, hno, hl, q3⟩ => ?_) hs
  subst ex ey ev
  cases rx
  cases ry
  obtain ⟨t, rfl⟩ := (show ∃ t, r = Value.int (n : Nat) t from rv)
  obtain ⟨hsm, ys, rel, dd⟩ := nd_of I3 hd
  have hyl : ys.length = xs.length := (Paired.length rel).symm
  refine wpAny_setItem_heap (knd := nestedKind X.prog X.w) (k := NK f g) (hsz := by rw [sizeLine_eq]; omega) (by show X.A.units + 1 + 8 < cLine; omega) (nk_of I3 hb) dd fun h' dd' hsb => ⟨σ, _, ?_, q3⟩
  have hno' : atKey ys (NK f g) = none := by
    have := paired_find (f := f) (g := g) rel
    rw [hno] at this
    exact Option.not_isSome_iff_eq_none.mp (by rw [this]; exact Bool.false_ne_true)
  rw [storedH_new hno'] at dd'
  obtain ⟨o', es, ep, ho', hc, hd', he, his, hn⟩ := dd'
  exact d_write I3 (by rw [hd.1]; exact True.intro) hsb ⟨o', ho'⟩ (ND_ok hsm (Paired.snoc rel ⟨rfl, rfl, t, rfl⟩) ho' hc hd' he hn)
end
end Bw
end
section
namespace Bfb
/-! the law's lists: their lengths, their ends -/
theorem runsL_snoc : ∀ (r : Runs) (b s t : Nat), runsL (r ++ [(s, t)]) b = runsL r b ++ (List.range t).map fun i => b + far r + i * s
  | [], b, s, t => by simp [runsL, far]
  | (u, v) :: r, b, s, t => by
    show (List.range v).map (fun i => b + i * u) ++ runsL (r ++ [(s, t)]) (b + u * v) = ((List.range v).map (fun i => b + i * u) ++ runsL r (b + u * v)) ++ _
    rw [runsL_snoc r (b + u * v) s t, List.append_assoc]
    congr 2
    refine List.map_congr_left fun i _ => ?_
    show b + u * v + far r + i * s = b + (u * v + far r) + i * s
    omega
theorem runsL_len : ∀ (r : Runs) (b : Nat), (runsL r b).length = nsteps r
  | [], _ => rfl
  | (s, t) :: r, b => by
    show ((List.range t).map (fun i => b + i * s) ++ runsL r (b + s * t)).length = t + nsteps r
    rw [List.length_append, List.length_map, List.length_range, runsL_len r]
theorem take_nsteps : ∀ (r : Runs) (i : Nat), nsteps (r.take i) ≤ nsteps r
  | [], i => by simp
  | (s, t) :: r, 0 => Nat.zero_le _
  | (s, t) :: r, i + 1 => by
    rw [List.take_succ_cons]
    exact Nat.add_le_add_left (take_nsteps r i) t
/-- the tail's turns -/
theorem tail_lt {b e n c : Nat} (he : 0 < e) : c < (n - b + (e - 1)) / e ↔ b + c * e < n := by
  rw [← Nat.succ_le_iff, Nat.le_div_iff_mul_le he, Nat.succ_mul]
  omega
theorem lawBound_le (f L : Nat) : lawBound f L ≤ f + 2 * L + 1 := by
  unfold lawBound
  have := Nat.div_mul_le_self f L
  rw [Nat.add_mul]
  omega
theorem inL_small {r1 : Runs} {e1 e2 n : Nat} (v1 : Valid r1 e1) (h1 : far r1 ≤ 60000) (p1 : 0 < e1) (q1 : e1 ≤ 576) (hn : n ≤ far r1 + 60000 + 2 * Nat.lcm e1 e2 + 1) (p2 : 0 < e2) (h : e2 ≤ e1) (hL : Nat.lcm e1 e2 ≤ 576) :
    (runsL r1 0).length + (tailL (far r1) e1 n).length ≤ 95000 ∧ n ≤ 130000 := by
  have hs := nsteps_far v1
  rw [runsL_len]
  unfold tailL
  rw [if_neg (by omega), List.length_map, List.length_range]
  by_cases e : e1 = 1
  · subst e
    have : e2 = 1 := by omega
    subst this
    have : Nat.lcm 1 1 = 1 := rfl
    rw [this] at hn
    rw [Nat.div_one]
    omega
  · have h2 : (n - far r1 + (e1 - 1)) / e1 ≤ (n - far r1 + (e1 - 1)) / 2 := Nat.div_le_div_left (by omega) (by decide)
    omega
theorem gaps_range : ∀ l : List Nat, gapsL l = (List.range (l.length - 1)).map fun i => l.getD (i + 1) 0 - l.getD i 0
  | [] => rfl
  | [a] => rfl
  | a :: b :: l => by
    rw [gapsL, gaps_range (b :: l)]
    show _ = (List.range (l.length + 1)).map _
    rw [List.range_succ_eq_map, List.map_cons, List.map_map]
    rfl
theorem asc_get {l : List Nat} (h : l.Pairwise (· < ·)) {i a b : Nat} (ha : l[i]? = some a) (hb : l[i + 1]? = some b) : a < b := by
  obtain ⟨l1, g1⟩ := List.getElem?_eq_some_iff.mp ha
  obtain ⟨l2, g2⟩ := List.getElem?_eq_some_iff.mp hb
  rw [← g1, ← g2]
  exact List.pairwise_iff_getElem.mp h i (i + 1) l1 l2 (by omega)
end Bfb
end
section
namespace Bfb
/-! changes of some states, and the counts at which two of them do the same -/
def thenF (f g : List Nat) : List Nat := f.map fun x => g.getD x 0
structure Chg (n : Nat) (f : List Nat) : Prop where
  len : f.length = n
  lt : ∀ x ∈ f, x < n
def pwF (f : List Nat) : Nat → List Nat
  | 0 => List.range f.length
  | k + 1 => thenF (pwF f k) f
theorem chg_id (n : Nat) : Chg n (List.range n) := ⟨List.length_range, fun x hx => List.mem_range.mp hx⟩
theorem getD_lt {n : Nat} {f : List Nat} (h : Chg n f) {x : Nat} (hx : x < n) : f.getD x 0 < n := by
  have hl : x < f.length := by rw [h.len]; exact hx
  rw [List.getD_eq_getElem?_getD, List.getElem?_eq_getElem hl]
  exact h.lt _ (List.getElem_mem hl)
theorem chg_then {n : Nat} {f g : List Nat} (h : Chg n f) (k : Chg n g) : Chg n (thenF f g) := by
  refine ⟨by unfold thenF; rw [List.length_map, h.len], fun x hx => ?_⟩
  obtain ⟨y, hy, rfl⟩ := List.mem_map.mp hx
  exact getD_lt k (h.lt y hy)
theorem then_assoc {n : Nat} {f g h : List Nat} (a : Chg n f) (b : Chg n g) : thenF (thenF f g) h = thenF f (thenF g h) := by
  unfold thenF
  rw [List.map_map]
  refine List.map_congr_left fun x hx => ?_
  have hl : x < g.length := by rw [b.len]; exact a.lt x hx
  show h.getD (g.getD x 0) 0 = _
  rw [List.getD_eq_getElem?_getD (l := g.map _), List.getElem?_map, List.getD_eq_getElem?_getD (l := g), List.getElem?_eq_getElem hl]
  rfl
theorem id_then {n : Nat} {g : List Nat} (h : g.length = n) : thenF (List.range n) g = g := by
  unfold thenF
  refine List.ext_getElem (by rw [List.length_map, List.length_range, h]) fun i h1 h2 => ?_
  rw [List.getElem_map, List.getElem_range, List.getD_eq_getElem?_getD, List.getElem?_eq_getElem h2]
  rfl
theorem then_id {n : Nat} {f : List Nat} (h : Chg n f) : thenF f (List.range n) = f := by
  unfold thenF
  refine List.ext_getElem (by rw [List.length_map]) fun i h1 h2 => ?_
  have hx := h.lt _ (List.getElem_mem h2)
  rw [List.getElem_map, List.getD_eq_getElem?_getD, List.getElem?_range hx]
  rfl
theorem chg_pw {n : Nat} {f : List Nat} (h : Chg n f) : ∀ k, Chg n (pwF f k)
  | 0 => by rw [pwF, h.len]; exact chg_id n
  | k + 1 => chg_then (chg_pw h k) h
theorem pw_add {n : Nat} {f : List Nat} (h : Chg n f) (a : Nat) : ∀ b, pwF f (a + b) = thenF (pwF f a) (pwF f b)
  | 0 => by
    show pwF f a = thenF (pwF f a) (List.range f.length)
    rw [h.len, then_id (chg_pw h a)]
  | b + 1 => by
    show thenF (pwF f (a + b)) f = thenF (pwF f a) (thenF (pwF f b) f)
    rw [pw_add h a b, then_assoc (chg_pw h a) (chg_pw h b)]
def Agree (f g : List Nat) (n : Nat) : Prop := pwF f n = pwF g n
instance {f g : List Nat} {n : Nat} : Decidable (Agree f g n) := inferInstanceAs (Decidable (_ = _))
theorem agree_closed {n : Nat} {f g : List Nat} (h : Chg n f) (k : Chg n g) : Closed (Agree f g) := by
  refine ⟨by unfold Agree pwF; rw [h.len, k.len], fun x y z hx hy hz h1 h2 => ?_⟩
  unfold Agree at *
  have e1 : x + y - z = (x - z) + y := by omega
  have e2 : x + y - z = x + (y - z) := by omega
  have a1 : pwF f (x + y - z) = thenF (pwF f (x - z)) (thenF (pwF g z) (pwF g (y - z))) := by
    rw [e1, pw_add h, hy, ← pw_add k, show z + (y - z) = y by omega]
  have a2 : pwF g (x + y - z) = thenF (thenF (pwF f (x - z)) (pwF f z)) (pwF g (y - z)) := by
    rw [e2, pw_add k, ← pw_add h, show x - z + z = x by omega, hx]
  rw [a1, a2, hz, then_assoc (chg_pw h (x - z)) (chg_pw k z)]
/-! how long a walk is -/
theorem pigeon : ∀ (N : Nat) (l : List Nat), l.Nodup → (∀ x ∈ l, x < N) → l.length ≤ N
  | 0, l, _, h => by
    cases l with
    | nil => exact Nat.le_refl _
    | cons x l => exact absurd (h x List.mem_cons_self) (Nat.not_lt_zero _)
  | N + 1, l, hn, h => by
    have h1 := pigeon N (l.erase N) (hn.erase N) fun x hx => by
      have := (hn.mem_erase_iff).mp hx
      have := h x this.2
      omega
    rw [List.length_erase] at h1
    split at h1 <;> omega
def codeF (f : List Nat) : Nat := f.getD 0 0 + 3 * f.getD 1 0 + 9 * f.getD 2 0
theorem code_lt {n : Nat} {f : List Nat} (h : Chg n f) (hn : n ≤ 3) : codeF f < 27 := by
  have q : ∀ i, f.getD i 0 < 3 := fun i => by
    rw [List.getD_eq_getElem?_getD]
    cases hi : f[i]? with
    | none => decide
    | some x => have := h.lt x (List.mem_of_getElem? hi); show x < 3; omega
  have h0 := q 0
  have h1 := q 1
  have h2 := q 2
  unfold codeF
  omega
theorem code_inj {n : Nat} {f g : List Nat} (h : Chg n f) (k : Chg n g) (hn : n ≤ 3) (e : codeF f = codeF g) : f = g := by
  have q : ∀ {f : List Nat}, Chg n f → ∀ i, f.getD i 0 < 3 := fun {f} h i => by
    rw [List.getD_eq_getElem?_getD]
    cases hi : f[i]? with
    | none => decide
    | some x => have := h.lt x (List.mem_of_getElem? hi); show x < 3; omega
  have h0 := q h 0
  have h1 := q h 1
  have h2 := q h 2
  have k0 := q k 0
  have k1 := q k 1
  have k2 := q k 2
  unfold codeF at e
  have e0 : f.getD 0 0 = g.getD 0 0 := by omega
  have e1 : f.getD 1 0 = g.getD 1 0 := by omega
  have e2 : f.getD 2 0 = g.getD 2 0 := by omega
  refine List.ext_getElem (by rw [h.len, k.len]) fun i h1 h2 => ?_
  have z : ∀ {f : List Nat} {i : Nat} (hi : i < f.length), f.getD i 0 = f[i] := fun {f i} hi => by
    rw [List.getD_eq_getElem?_getD, List.getElem?_eq_getElem hi]; rfl
  rw [← z h1, ← z h2]
  have : i < 3 := by rw [h.len] at h1; omega
  match i, this with
  | 0, _ => exact e0
  | 1, _ => exact e1
  | 2, _ => exact e2
/-- all pairs ahead of k differ: then k is small -/
theorem walk_len {n : Nat} {f g : List Nat} (h : Chg n f) (k : Chg n g) (hn : n ≤ 3) {N : Nat} (hd : ∀ i j, i < j → j < N → ¬(pwF f i = pwF f j ∧ pwF g i = pwF g j)) : N ≤ 729 := by
  have := pigeon 729 ((List.range N).map fun i => codeF (pwF f i) + 27 * codeF (pwF g i)) (by
    rw [List.nodup_iff_pairwise_ne, List.pairwise_map]
    refine List.pairwise_iff_getElem.mpr fun i j hi hj hij e => ?_
    rw [List.getElem_range, List.getElem_range] at e
    rw [List.length_range] at hj
    have a1 := code_lt (chg_pw h i) hn
    have a2 := code_lt (chg_pw h j) hn
    exact hd i j hij hj ⟨code_inj (chg_pw h i) (chg_pw h j) hn (by omega), code_inj (chg_pw k i) (chg_pw k j) hn (by omega)⟩) fun x hx => by
    obtain ⟨i, _, rfl⟩ := List.mem_map.mp hx
    have a1 := code_lt (chg_pw h i) hn
    have a2 := code_lt (chg_pw k i) hn
    omega
  rw [List.length_map, List.length_range] at this
  exact this
/-- what a walk tells -/
structure WalkOk (f g : List Nat) (bs : List Bool) (back : Nat) : Prop where
  all : bs = (List.range bs.length).map fun i => decide (Agree f g i)
  lt : back < bs.length
  few : bs.length ≤ 1000
  fst : pwF f bs.length = pwF f back
  snd : pwF g bs.length = pwF g back
theorem per_step {n : Nat} {f : List Nat} (h : Chg n f) {N b : Nat} (hb : b ≤ N) (e : pwF f N = pwF f b) {m : Nat} (hm : b ≤ m) : pwF f (m + (N - b)) = pwF f m := by
  have e1 : m + (N - b) = N + (m - b) := by omega
  have e2 : m = b + (m - b) := by omega
  rw [e1, pw_add h, e, ← pw_add h, ← e2]
theorem per_mod {n : Nat} {f : List Nat} (h : Chg n f) {N b : Nat} (hb : b < N) (e : pwF f N = pwF f b) : ∀ r, pwF f (b + r) = pwF f (b + r % (N - b)) := by
  intro r
  induction r using Nat.strongRecOn with
  | ind r ih =>
    by_cases hr : r < N - b
    · rw [Nat.mod_eq_of_lt hr]
    · have h1 := ih (r - (N - b)) (by omega)
      rw [← Nat.mod_eq_sub_mod (by omega : r ≥ N - b)] at h1
      rw [← h1, ← per_step h (Nat.le_of_lt hb) e (m := b + (r - (N - b))) (by omega)]
      congr 1
      omega
def fitAt (bs : List Bool) (back c : Nat) : Nat := if c < back then c else back + (c - back) % (bs.length - back)
theorem fit_lt {f g : List Nat} {bs : List Bool} {back : Nat} (w : WalkOk f g bs back) (c : Nat) : fitAt bs back c < bs.length := by
  unfold fitAt
  have := w.lt
  by_cases h : c < back
  · rw [if_pos h]; omega
  · rw [if_neg h]
    have := Nat.mod_lt (c - back) (show 0 < bs.length - back by omega)
    omega
theorem fit_ok {n : Nat} {f g : List Nat} (h : Chg n f) (k : Chg n g) {bs : List Bool} {back : Nat} (w : WalkOk f g bs back) (c : Nat) : bs[fitAt bs back c]? = some (decide (Agree f g c)) := by
  have hl := fit_lt w c
  have e : bs[fitAt bs back c]? = some (decide (Agree f g (fitAt bs back c))) := by
    have := w.all
    rw [this, List.getElem?_map]
    rw [← this, List.getElem?_range hl]
    rfl
  rw [e]
  congr 1
  refine decide_eq_decide.mpr ?_
  unfold Agree fitAt
  by_cases hc : c < back
  · rw [if_pos hc]
  · rw [if_neg hc]
    have hc2 : c = back + (c - back) := by omega
    rw [← per_mod h w.lt w.fst, ← per_mod k w.lt w.snd, ← hc2]
/-- the sets that are handed on lie in the agreements -/
theorem lst_agree {n : Nat} {f0 f1 f2 : List Nat} (h0 : Chg n f0) (h1 : Chg n f1) (h2 : Chg n f2) {l0 l1 l2 : List Nat} (a0 : ∀ c ∈ l0, Agree f0 f1 c) (a1 : ∀ c ∈ l1, Agree f0 f2 c) (a2 : ∀ c ∈ l2, Agree f1 f2 c) :
    ∀ p c, Lst (gens l0 l1 l2) p c → (match p with | 0 => Agree f0 f1 c | 1 => Agree f0 f2 c | 2 => Agree f1 f2 c) := by
  intro p c h
  refine h (fun p c => match p with | 0 => Agree f0 f1 c | 1 => Agree f0 f2 c | 2 => Agree f1 f2 c) ⟨fun p => ?_, fun p c hc => ?_, fun p c x y => ?_⟩
  · match p with
    | 0 => exact agree_closed h0 h1
    | 1 => exact agree_closed h0 h2
    | 2 => exact agree_closed h1 h2
  · match p, hc with
    | 0, hc => exact a0 c hc
    | 1, hc => exact a1 c hc
    | 2, hc => exact a2 c hc
  · match p, x, y with
    | 0, x, y => exact (show pwF f0 c = pwF f2 c from x).trans (show pwF f1 c = pwF f2 c from y).symm
    | 1, x, y => exact (show pwF f0 c = pwF f1 c from y).trans (show pwF f1 c = pwF f2 c from x)
    | 2, x, y => exact (show pwF f0 c = pwF f1 c from x).symm.trans (show pwF f0 c = pwF f2 c from y)
end Bfb
end
section
set_option Elab.async false
set_option linter.all false
set_option maxRecDepth 100000
set_option maxHeartbeats 4000000
/-! what stays when a dict of ours, or a table, is written. -/
namespace Bw
open PySem PySem.Spec PyProof.Rows L2 Bfb
/-- all but things of ours and tables stay -/
def DEx (H H' : Hp) : Prop := ∀ b o, H b = some o → (∀ φ, o ≠ .ext φ) → (∀ ps, o ≠ .tbl ps) → H' b = some o
section
variable {K : PySem.W.Frag} {H H1 H' : Hp} {a p : Addr} {xs : List V} {es : List PyData}
theorem DEx.of (e : Ex H H') : DEx H H' := fun b o h _ _ => e b o h
theorem DEx.ofN (e : LamX.ExtN H H') : DEx H H' := fun b o h _ h2 => e b o h h2
theorem DEx.trans (e : DEx H H1) (f : DEx H1 H') : DEx H H' := fun b o h k l => f b o (e b o h k l) k l
theorem DEx.upd {φ : Heap → Prop} {o : HO} (h : H a = some (.ext φ)) : DEx H (L2.upd H a o) := fun b u e k _ => by
  rw [upd_ne (fun z => ?_)]
  · exact e
  · rw [z, h] at e
    exact k φ (Option.some.inj e).symm
theorem sqt_dex (e : DEx H H') (h : SqT K H a xs) : SqT K H' a xs := by
  rcases h with (h | ⟨o, h⟩) | h
  · exact .inl (.inl (e _ _ h (fun _ z => nomatch z) fun _ z => nomatch z))
  · exact .inl (.inr ⟨o, e _ _ h (fun _ z => nomatch z) fun _ z => nomatch z⟩)
  · exact .inr h
theorem sql_dex (e : DEx H H') (h : SqL K H a xs) : SqL K H' a xs := by
  rcases h with (h | ⟨o, h⟩) | h
  · exact .inl (.inl (e _ _ h (fun _ z => nomatch z) fun _ z => nomatch z))
  · exact .inl (.inr ⟨o, e _ _ h (fun _ z => nomatch z) fun _ z => nomatch z⟩)
  · exact .inr h
mutual
theorem dp_dex {K : PySem.W.Frag} {H H' : Hp} (e : DEx H H') : ∀ {d : PyData} {v : V}, Dp K H v d → Dp K H' v d
  | .none, _, .non => .non
  | .bool _, _, .bl b => .bl b
  | .int _, _, .int i => .int i
  | .str _, _, .str x => .str x
  | .list _, _, .lst h hs => .lst (sql_dex e h) (dpa_dex e hs)
  | .tuple _, _, .tup h hs => .tup (sqt_dex e h) (dpa_dex e hs)
theorem dpa_dex {K : PySem.W.Frag} {H H' : Hp} (e : DEx H H') : ∀ {ds : List PyData} {vs : List V}, DpAll K H vs ds → DpAll K H' vs ds
  | [], _, .nil => .nil
  | _ :: _, _, .cons h hs => .cons (dp_dex e h) (dpa_dex e hs)
end
theorem Own.dex (e : DEx H H') (h : Own K H p es) : Own K H' p es := by
  obtain ⟨acc, h1, h2⟩ := h.ex
  exact ⟨acc, e _ _ h1 (fun _ z => nomatch z) (fun _ z => nomatch z), dpa_dex e h2⟩
theorem Deal.dex {c : Addr} (e : DEx H H') (h : Deal H a c) : Deal H' a c := by
  obtain ⟨xs, m, h1, h2, h3⟩ := h
  exact ⟨xs, m, e _ _ h1 (fun _ z => nomatch z) (fun _ z => nomatch z), e _ _ h2 (fun _ z => nomatch z) (fun _ z => nomatch z), h3⟩
theorem ex_upd {G : Hp} {o : HO} (e : Ex H G) (h : H p = none) : Ex H (upd G p o) := fun b u q => by rw [upd_ne (ne_of_none q h)]; exact e b u q
end
theorem call_tupK {X : Cx} {K : PySem.W.Frag} (h : X.K = K) : CallR X (.type "tuple") (fun xs H Q => ∃ p ys, xs = [.ref p] ∧ ((SqL K H p ys ∧ ∀ l, H l = none → Q (.ref l) (upd H l (.tup ys))) ∨ (SqT K H p ys ∧ Q (.ref p) H))) := h ▸ call_tuple_of
theorem eqv_nums : ∀ f g : List Nat, PyData.eqvAll (f.map numN) (g.map numN) = decide (f = g)
  | [], [] => by simp [PyData.eqvAll]
  | [], _ :: _ => by simp [PyData.eqvAll]
  | _ :: _, [] => by simp [PyData.eqvAll]
  | a :: f, b :: g => by
    rw [List.map_cons, List.map_cons, PyData.eqvAll, eqv_nums f g, Bool.eq_iff_iff]
    show (PyData.eqv (.int (a : Nat)) (.int (b : Nat)) && _) = true ↔ _
    rw [eqv_dec]
    simp
    intro _
    omega
theorem eqv_tupI (f g : List Nat) : PyData.eqv (tupI f) (tupI g) = decide (f = g) := by
  show PyData.eqvAll (f.map numN) (g.map numN) = _
  exact eqv_nums f g
theorem shaped_tupI (f : List Nat) : SeqAt.shaped (tupI f) = true := by
  have h1 : ∀ f : List Nat, PyData.depthAll (f.map numN) ≤ 2 := fun f => by
    induction f with
    | nil => exact Nat.zero_le _
    | cons x f ih =>
      rw [List.map_cons, PyData.depthAll]
      have : PyData.depth (numN x) ≤ 2 := by simp [numN, PyData.depth]
      omega
  have h2 : (tupI f).depth ≤ 64 := by have := h1 f; simp only [tupI, PyData.depth]; omega
  have h4 : ∀ f : List Nat, PyData.canLayAll0 (f.map numN) = true := fun f => by
    induction f with
    | nil => rfl
    | cons x f ih => rw [List.map_cons, PyData.canLayAll0, ih]; rfl
  have h3 : (tupI f).canLay0 = true := by simp only [tupI, PyData.canLay0, h4]
  unfold SeqAt.shaped
  rw [h3, decide_eq_true h2]
  rfl
section
variable {K : PySem.W.Frag} {P : Program} {w : World} {σ : L2.St} {H H' : Hp} {te tv ty : TE} {D : Ends} {tz : TS} {a : Addr} {xs : List NEnt} {f g : List Nat} {i n : Nat}
theorem evd_lstRg (h : EvD K te σ H (.int (n : Nat))) (hn : n ≤ 100000) : EvD K (tLstRg (tRg1 te)) σ H (.list ((List.range n).map numN)) := fun H1 e Q q =>
  h H1 e _ fun v H2 e2 dv => ⟨(n : Nat), dp_int dv, RgOk.of_le (by omega) (by omega) (by omega) (by omega), fun p np => q _ _ (e2.trans (Ex.new np)) (.lst (SqL.of upd_same) (by
    have : rgV 0 (n : Nat) = (List.range n).map fun k => V.int (k : Nat) := by unfold rgV; simp
    rw [this]
    have : ∀ l : List Nat, DpAll K (upd H2 p (.lst ((List.range n).map fun k => V.int (k : Nat)))) (l.map fun k => V.int (k : Nat)) (l.map numN) := fun l => by
      induction l with
      | nil => exact .nil
      | cons x l ih => exact .cons (.int _) ih
    exact this _))⟩
theorem et_notinN (h : EvD K ty σ H (PairF f g)) (hv : σ[i]? = some (some (.ref a))) (hd : NDict K P w H a xs) : Evl.EvT (tTest (tOp (rNotInN K P w) ty (tVar i))) σ H (!hasN xs f g) := fun H1 e Q q =>
  h H1 e _ fun v H2 e2 dv => by
    obtain ⟨b, ys, rfl, _, _⟩ := dp_tup dv
    exact ⟨_, hv, b, a, f, g, xs, rfl, rfl, dv, hd.mono (e.trans e2), _, rfl, q H2 e2⟩
variable (K) in
theorem q_putN {tv : TE} (h : EvD K tv σ H (.int (n : Nat))) (hv : σ[i]? = some (some (.ref a))) (hy : EvD K ty σ H (PairF f g)) (hd : NDict K P w H a xs) (hno : hasN xs f g = false) (hl : xs.length < 100000)
    (k : ∀ b H1, Ex H H1 → Dp K H1 (.ref b) (PairF f g) → NDict K P w (upd H1 a (ND P w a (xs ++ [(f, g, b, n)]))) a (xs ++ [(f, g, b, n)]) → DEx H1 (upd H1 a (ND P w a (xs ++ [(f, g, b, n)]))) → tz D σ (upd H1 a (ND P w a (xs ++ [(f, g, b, n)])))) : tSeq (sDPutN K P w (tVar i) ty tv) tz D σ H :=
  h H (Ex.refl _) _ fun v H1 e1 dv => ⟨_, hv, hy H1 e1 _ fun y H2 e2 dy => by
    obtain ⟨b, ys, rfl, _, _⟩ := dp_tup dy
    have hd2 := hd.mono (e1.trans e2)
    have dx : DEx H2 (upd H2 a (ND P w a (xs ++ [(f, g, b, n)]))) := DEx.upd hd2.1
    refine ⟨a, b, xs, f, g, n, rfl, rfl, dp_int dv, hd2, dy, hno, hl, k b H2 (e1.trans e2) dy ⟨upd_same, fun x hx => ?_⟩ dx⟩
    rcases List.mem_append.mp hx with z | z
    · exact dp_dex dx (hd2.2 x z)
    · rw [List.mem_singleton.mp z]; exact dp_dex dx dy⟩
variable (K) in
theorem q_parNN {j : Nat} (k : ∀ d p H1, Ex H H1 → H d = none → H p = none → d ≠ p → NDict K P w H1 d [] → Own K H1 p [] → tz D ((σ.set i (some (.ref d))).set j (some (.ref p))) H1) : tSeq (tPar i j (tCons (tDNewN P w) (tCons (tLst tNil) tNil))) tz D σ H :=
  fun d nd => ⟨Nat.zero_le _, fun p np => ⟨.ref d, .ref p, rfl, k d p _ ((Ex.new nd).trans (Ex.new np)) nd (fresh_ex (Ex.new nd) np) (fun z => by rw [← z, upd_same] at np; cases np) ((show NDict K P w (upd H d (ND P w d [])) d [] from ⟨upd_same, fun _ h => nomatch h⟩).mono (Ex.new np)) (Own.new upd_same)⟩⟩
theorem evd_getN {e : NEnt} (hv : σ[i]? = some (some (.ref a))) (hy : EvD K ty σ H (PairF e.1 e.2.1)) (hd : NDict K P w H a xs) (he : e ∈ xs) : EvD K (tDGetN K P w (tVar i) ty) σ H (.int (e.2.2.2 : Nat)) := fun H1 e1 Q q =>
  ⟨_, hv, hy H1 e1 _ fun y H2 e2 dy => by
    obtain ⟨b, ys, rfl, _, _⟩ := dp_tup dy
    exact ⟨a, xs, e, b, rfl, rfl, hd.mono (e1.trans e2), dy, he, q _ H2 e2 (.int _)⟩⟩
end
section
variable {K : PySem.W.Frag} {σ : L2.St} {H H' : Hp} {ds : List PyData} {D : Ends} {tu tz : TS} {g : TG} {v : V} {i : Nat}
variable (K) in
/-- for i, x in enumerate(l), l a name's list -/
theorem q_forEL (hv : σ[i]? = some (some v)) (dv : Dp K H v (.list ds)) (k : ∃ Pv : Nat → L2.St → Hp → Prop, Pv 0 σ H ∧ (∀ i σ' H', Pv i σ' H' → Dp K H' v (.list ds)) ∧
    (∀ i d x σ' H' H2, ds[i]? = some d → Pv i σ' H' → Ex H' H2 → Dp K H2 x (.tuple [.int (i : Nat), d]) → g x σ' H2 fun σ2 H3 => tu { D with nx := Pv (i + 1), ct := Pv (i + 1), bk := tz D } σ2 H3) ∧ ∀ σ' H', Pv ds.length σ' H' → tz D σ' H') : tSeq (tFor (iEnum K (tCons (tVar i) tNil)) g tu) tz D σ H := by
  obtain ⟨Pv, h0, hk, ht, hd⟩ := k
  obtain ⟨a, xs, rfl, h1, h2⟩ := dp_lst dv
  refine ⟨_, hv, a, xs, rfl, h1, ?_⟩
  refine ⟨fun i m σ' H' => m = ds.length - i ∧ i ≤ ds.length ∧ Pv i σ' H', ⟨ds.length, by simp, Nat.zero_le _, h0⟩, ?_⟩
  rintro i m σ' H' ⟨rfl, hi, p⟩
  obtain ⟨a', ys, ea, k1, k2⟩ := dp_lst (hk i σ' H' p)
  cases ea
  have hl := dpa_len k2
  by_cases hlt : i < ds.length
  · obtain ⟨v, hv, dv⟩ := dpa_get k2 (List.getElem?_eq_getElem hlt)
    refine .inr ⟨⟨ys, v, k1, hv⟩, Pv (i + 1), fun σ2 H2 p' => ⟨ds.length - (i + 1), by omega, rfl, hlt, p'⟩, fun x H2 yl => ?_⟩
    obtain ⟨T, y, rfl, hT, rfl, hy⟩ := yl
    have hy := hy ys k1
    rw [hv] at hy
    cases hy
    exact ht i _ _ _ _ _ (List.getElem?_eq_getElem hlt) p (Ex.new hT) (.tup (SqT.of upd_same) (.cons (.int _) (.cons (dp_ex (Ex.new hT) dv) .nil)))
  · have e : i = ds.length := by omega
    subst e
    exact .inl ⟨⟨ys, k1, by omega⟩, hd σ' H' p⟩
end
section
variable {K : PySem.W.Frag} {σ : L2.St} {H : Hp} {ta : TA} {D : Ends} {tu tz : TS} {g : TG}
variable (K) in
theorem s_forR2 {lo hi : Nat} (h : EvDA K ta σ H [.int (lo : Nat), .int (hi : Nat)]) (hn : lo ≤ 1000000) (hn2 : hi ≤ 1000000) (k : ∀ H1, Ex H H1 → ∃ Pv : Nat → L2.St → Hp → Prop, Pv 0 σ H1 ∧
    (∀ i σ' H', i < hi - lo → Pv i σ' H' → g (.int (lo + i : Nat)) σ' H' fun σ2 H2 => tu { D with nx := Pv (i + 1), ct := Pv (i + 1), bk := D.nx } σ2 H2) ∧ ∀ σ' H', Pv (hi - lo) σ' H' → D.nx σ' H') : tFor (iRng2 ta) g tu D σ H := by
  refine h H (Ex.refl H) _ fun vs H1 e dv => ?_
  obtain ⟨v, u, rfl, d1, d2⟩ := dpa2 dv
  cases dp_int d1
  cases dp_int d2
  obtain ⟨Pv, h0, ht, hd⟩ := k H1 e
  refine ⟨(lo : Nat), (hi : Nat), rfl, ⟨by omega, by omega, by omega, by omega⟩, ?_⟩
  rw [show ((hi : Int) - (lo : Int)).toNat = hi - lo by omega]
  have := @for_range (lo : Nat) (hi - lo) g tu D σ H1 Pv h0 (fun i σ' H' hi p => by rw [show ((lo : Nat) : Int) + (i : Int) = ((lo + i : Nat) : Int) by omega]; exact ht i σ' H' hi p) hd
  exact this
end
/-- a walk's answer at t: it stands in lists that are not of H0 -/
def WkF (H0 H : Hp) (t : Addr) (f g : List Nat) : Prop := ∃ (l : Addr) (bs : List Bool) (back : Nat), H0 l = none ∧ WalkOk f g bs back ∧ H t = some (.tup [.ref l, .int (back : Nat)]) ∧ H l = some (.lst (bs.map .bl))
/-- the same, in lists that are none of S -/
def WkS (S : List Addr) (H : Hp) (t : Addr) (f g : List Nat) : Prop := ∃ (l : Addr) (bs : List Bool) (back : Nat), l ∉ S ∧ WalkOk f g bs back ∧ H t = some (.tup [.ref l, .int (back : Nat)]) ∧ H l = some (.lst (bs.map .bl))
section
variable {K : PySem.W.Frag} {S : List Addr} {H0 H H' : Hp} {t p : Addr} {f g : List Nat}
theorem WkF.s (h : WkF H0 H t f g) (hS : ∀ x ∈ S, H0 x ≠ none) : WkS S H t f g := by
  obtain ⟨l, bs, back, h1, h2⟩ := h
  exact ⟨l, bs, back, fun z => hS l z h1, h2⟩
theorem WkF.mono (e : Ex H H') (h : WkF H0 H t f g) : WkF H0 H' t f g := by
  obtain ⟨l, bs, back, h1, h2, h3, h4⟩ := h
  exact ⟨l, bs, back, h1, h2, e _ _ h3, e _ _ h4⟩
theorem WkF.upd {kvs : List (TK × V)} {o : HO} (hp : H p = some (.dT kvs)) (h : WkF H0 H t f g) : WkF H0 (L2.upd H p o) t f g := by
  obtain ⟨l, bs, back, h1, h2, h3, h4⟩ := h
  exact ⟨l, bs, back, h1, h2, by rw [upd_ne (fun z => by rw [z, hp] at h3; cases h3)]; exact h3, by rw [upd_ne (fun z => by rw [z, hp] at h4; cases h4)]; exact h4⟩
theorem WkS.mono (e : Ex H H') (h : WkS S H t f g) : WkS S H' t f g := by
  obtain ⟨l, bs, back, h1, h2, h3, h4⟩ := h
  exact ⟨l, bs, back, h1, h2, e _ _ h3, e _ _ h4⟩
theorem WkS.bts (b : Bts S H H') (hl : Lsts S H) (h : WkS S H t f g) : WkS S H' t f g := by
  obtain ⟨l, bs, back, h1, h2, h3, h4⟩ := h
  refine ⟨l, bs, back, h1, h2, b _ _ (fun z => ?_) h3, b _ _ h1 h4⟩
  rcases hl t z with ⟨ys, hy⟩ | ⟨ys, hy⟩ <;> rw [h3] at hy <;> cases hy
theorem WkS.cons (np : H p = none) (h : WkS S H t f g) : WkS (p :: S) H t f g := by
  obtain ⟨l, bs, back, h1, h2, h3, h4⟩ := h
  refine ⟨l, bs, back, fun z => ?_, h2, h3, h4⟩
  rcases List.mem_cons.mp z with z | z
  · rw [z, np] at h4; cases h4
  · exact h1 z
theorem WkS.dp (h : WkS S H t f g) : ∃ (bs : List Bool) (back : Nat), WalkOk f g bs back ∧ Dp K H (.ref t) (.tuple [.list (bs.map .bool), .int (back : Nat)]) := by
  obtain ⟨l, bs, back, h1, h2, h3, h4⟩ := h
  have : ∀ bs : List Bool, DpAll K H (bs.map .bl) (bs.map .bool) := fun bs => by
    induction bs with
    | nil => exact .nil
    | cons x l ih => exact .cons (.bl _) ih
  exact ⟨bs, back, h2, .tup (SqT.of h3) (.cons (.lst (SqL.of h4) (this bs)) (.cons (.int _) .nil))⟩
end
end Bw
end
section
set_option Elab.async false
set_option linter.all false
set_option maxRecDepth 100000
set_option maxHeartbeats 8000000
namespace Bw
open PySem PySem.Spec PyProof.Rows L2 Bfb
local macro_rules | `(tactic| walk_at "ex") => `(tactic| first
  | assumption
  | exact Ex.refl _
  | (refine Ex.trans ?_ (by assumption); walk_at "ex"))
local macro_rules | `(tactic| walk_at "om") => `(tactic| first | omega | assumption | (left; constructor <;> omega) | (right; constructor <;> omega) | decide)
local macro_rules | `(tactic| walk_at "ln") => `(tactic| first | decide | (simp only [List.length_cons, List.length_nil, List.length_append, List.length_map]; omega))
local macro_rules | `(tactic| walk_at "rd") => `(tactic| first
  | with_reducible exact rd_plus
  | with_reducible exact rd_sub
  | with_reducible exact rd_lt
  | with_reducible exact rd_le
  | with_reducible exact rd_gt
  | with_reducible exact rd_ge
  | with_reducible exact rd_eqI
  | with_reducible exact rd_neI
  | ((with_reducible apply rd_eqD); rfl; rfl)
  | ((with_reducible apply rd_neD); rfl; rfl)
  | ((with_reducible apply rd_mul); walk_at "om")
  | ((with_reducible apply rd_div); walk_at "om"; walk_at "om")
  | ((with_reducible apply rd_mod); walk_at "om")
  | ((with_reducible apply rd_divW); walk_at "om"; walk_at "om")
  | ((with_reducible apply rd_ixT); rfl)
  | ((with_reducible apply rd_ixL); rfl)
  | with_reducible exact rd_isNi
  | with_reducible exact rd_isNn
  | with_reducible exact rd_isNt
  | with_reducible exact rd_notNn)
local macro_rules | `(tactic| walk_at "ev") => `(tactic| first
  | with_reducible exact evd_int
  | ((with_reducible apply evd_varI); rfl)
  | ((with_reducible apply evd_varB); rfl)
  | ((with_reducible apply evd_var); rfl; assumption; walk_at "ex")
  | with_reducible exact evd_bl
  | with_reducible exact evd_non
  | with_reducible exact evd_str
  | ((with_reducible apply evd_op); walk_at "ev"; walk_at "ev"; walk_at "rd")
  | ((with_reducible apply evd_tup); walk_at "ea"; walk_at "ln")
  | ((with_reducible apply evd_lst); walk_at "ea"; walk_at "ln")
  | ((with_reducible apply evd_isInt); walk_at "ev")
  | ((with_reducible apply evd_isBool); walk_at "ev")
  | ((with_reducible apply evd_isTuple); walk_at "ev")
  | ((with_reducible apply evd_cb); walk_at "ea"; walk_at "rc")
  | with_reducible exact evd_neg1
  | ((with_reducible apply evd_notV); walk_at "ev")
  | ((with_reducible apply evd_call); walk_at "ea"; assumption))
local macro_rules | `(tactic| walk_at "ea") => `(tactic| first
  | with_reducible exact evda_nil
  | ((with_reducible apply evda_cons); walk_at "ev"; walk_at "ea")
  | ((with_reducible apply evda_starT); walk_at "ev"; walk_at "ea")
  | ((with_reducible apply evda_starL); walk_at "ev"; walk_at "ea"))
local macro_rules | `(tactic| walk_at "rc") => `(tactic| first
  | with_reducible exact rc_len
  | with_reducible exact rc_lenT
  | with_reducible exact rc_tupL
  | with_reducible exact rc_tupT
  | with_reducible exact rc_listL
  | with_reducible exact rc_listT
  | with_reducible exact rc_min2
  | with_reducible exact rc_max2
  | with_reducible exact rc_int1
  | with_reducible exact rc_abs
  | with_reducible exact rc_all
  | with_reducible exact rc_sum)
local macro_rules | `(tactic| walk_at "et") => `(tactic| first
  | ((with_reducible apply et_test (K := ‹PySem.W.Frag›)); walk_at "ev")
  | ((with_reducible apply et_B (K := ‹PySem.W.Frag›)); walk_at "ev")
  | ((with_reducible apply et_not); walk_at "et"))

variable {P : Program} {w : World} {K : PySem.W.Frag} {mg : Str → Option Value} {base : Heap}
abbrev s_handed_on : Stmt := topS 36
abbrev N_handed_on : List Str := ["bodies", "accords", "i", "j", "pairs", "pair", "found", "before", "k", "more"]
theorem sc_handed_on : FnScope N_handed_on ["bodies", "accords"] (defScope s_handed_on) := ⟨rfl, rfl, rfl, by decide +kernel, rfl, by decide +kernel, by decide +kernel⟩
/-! ### the turns as tables -/
abbrev kyN (k : Nat × Nat) : TK := ky (k.1 : Nat) (k.2 : Nat)
theorem kyN_inj {k l : Nat × Nat} (h : kyN k = kyN l) : k = l := by
  have h : [(Sum.inl (k.1 : Int) : L2.Key), .inl (k.2 : Int)] = [.inl (l.1 : Int), .inl (l.2 : Int)] := h
  simp at h
  exact Prod.ext (by omega) (by omega)
def tabOf (ks : List (Nat × Nat)) (f : Nat × Nat → Bfb.Row) : List (TK × PyData) := ks.map fun k => (kyN k, rowD (f k))
theorem tabOf_keys (ks : List (Nat × Nat)) (f : Nat × Nat → Bfb.Row) : (tabOf ks f).map (·.1) = ks.map kyN := by unfold tabOf; rw [List.map_map]; rfl
theorem keys_nodup {ks : List (Nat × Nat)} (h : ks.Nodup) : (ks.map kyN).Nodup := by
  rw [List.nodup_iff_pairwise_ne, List.pairwise_map]
  exact h.imp fun n e => n (kyN_inj e)
theorem lk_tabOf {ks : List (Nat × Nat)} (h : ks.Nodup) {f : Nat × Nat → Bfb.Row} {k : Nat × Nat} (hk : k ∈ ks) : lk (tabOf ks f) (kyN k) = some (rowD (f k)) := by
  obtain ⟨i, hi⟩ := List.mem_iff_getElem?.mp hk
  refine lk_of (i := i) (by rw [tabOf_keys]; exact keys_nodup h) ?_
  unfold tabOf
  rw [List.getElem?_map, hi]
  rfl
theorem ne_tabOf {ks : List (Nat × Nat)} (h : ks.Nodup) (f g : Nat × Nat → Bfb.Row) :
    (!((tabOf ks f).length == (tabOf ks g).length && ((tabOf ks f).map (·.1)).all (eqK (tabOf ks f) (tabOf ks g)))) = !decide (∀ k ∈ ks, f k = g k) := by
  congr 1
  have hl : ((tabOf ks f).length == (tabOf ks g).length) = true := by unfold tabOf; simp
  rw [hl, Bool.true_and, tabOf_keys, List.all_map, Bool.eq_iff_iff, List.all_eq_true, decide_eq_true_eq]
  have key : ∀ k ∈ ks, eqK (tabOf ks f) (tabOf ks g) (kyN k) = decide (f k = g k) := fun k hk => by
    unfold eqK
    rw [lk_tabOf h hk, lk_tabOf h hk]
    exact eqv_row _ _
  constructor
  · intro q k hk
    have := q k hk
    rw [Function.comp_apply, key k hk] at this
    exact of_decide_eq_true this
  · intro q k hk
    rw [Function.comp_apply, key k hk]
    exact decide_eq_true (q k hk)
theorem put_tabOf {ks : List (Nat × Nat)} {f : Nat × Nat → Bfb.Row} {k : Nat × Nat} (hk : k ∈ ks) (R : Bfb.Row) : putT (tabOf ks f) (kyN k) (rowD R) = tabOf ks (fun l => if l = k then R else f l) := by
  unfold putT
  have : ((tabOf ks f).any fun p => decide (p.1 = kyN k)) = true := List.any_eq_true.mpr ⟨_, List.mem_map.mpr ⟨k, hk, rfl⟩, decide_eq_true rfl⟩
  rw [if_pos this]
  unfold tabOf
  rw [List.map_map]
  refine List.map_congr_left fun l hl => ?_
  show (if kyN l = kyN k then (kyN l, rowD R) else (kyN l, rowD (f l))) = (kyN l, rowD (if l = k then R else f l))
  by_cases e : l = k
  · rw [e, if_pos rfl, if_pos rfl]
  · rw [if_neg e, if_neg fun z => e (kyN_inj z)]
theorem no_tabOf (ks : List (Nat × Nat)) (f : Nat × Nat → Bfb.Row) : ∀ p ∈ tabOf ks f, noL p.2 = true := fun p hp => by
  obtain ⟨k, _, rfl⟩ := List.mem_map.mp hp
  exact noRow _
theorem sh_tabOf (ks : List (Nat × Nat)) (f : Nat × Nat → Bfb.Row) : ∀ p ∈ tabOf ks f, SeqAt.shaped p.2 = true := fun p hp => by
  obtain ⟨k, _, rfl⟩ := List.mem_map.mp hp
  exact shaped_row _
theorem len_tabOf (ks : List (Nat × Nat)) (f : Nat × Nat → Bfb.Row) : (tabOf ks f).length = ks.length := by unfold tabOf; rw [List.length_map]
def atR (x : R3) (k : Nat × Nat) : Bfb.Row := if k = (0, 1) then x.1 else if k = (0, 2) then x.2.1 else x.2.2
noncomputable def stB (b : Nat) (x : R3) (t : Nat) : R3 := if b = 3 then stR x t else x
noncomputable def x0 (as : List (Nat × Nat × Nat)) : R3 := start3 (told as 0 1) (told as 0 2) (told as 1 2)
/-- what comes of the accords -/
noncomputable def finB (b : Nat) (as : List (Nat × Nat × Nat)) : R3 := stB b (x0 as) 14
def handD (b : Nat) (x : R3) : PyData := .tuple ((pairsOf b).map fun k => .tuple [.int (k.1 : Nat), .int (k.2 : Nat), rowD (atR x k)])
theorem pairs_nodup {b : Nat} (h1 : 1 ≤ b) (h3 : b ≤ 3) : (pairsOf b).Nodup := by
  have : b = 1 ∨ b = 2 ∨ b = 3 := by omega
  rcases this with rfl | rfl | rfl <;> decide
theorem pairs_in {b : Nat} (h1 : 1 ≤ b) (h3 : b ≤ 3) : ∀ k ∈ pairsOf b, k = (0, 1) ∨ k = (0, 2) ∨ k = (1, 2) := by
  have : b = 1 ∨ b = 2 ∨ b = 3 := by omega
  rcases this with rfl | rfl | rfl <;> decide
theorem pairs_n {b : Nat} (h1 : 1 ≤ b) (h3 : b ≤ 3) : (pairsOf b).length ≤ 3 := by
  have : b = 1 ∨ b = 2 ∨ b = 3 := by omega
  rcases this with rfl | rfl | rfl <;> decide
theorem x0_at {as : List (Nat × Nat × Nat)} {k : Nat × Nat} (h : k = (0, 1) ∨ k = (0, 2) ∨ k = (1, 2)) : clRow (told as k.1 k.2) = atR (x0 as) k := by
  rcases h with rfl | rfl | rfl <;> rfl
/-- the table at rest is the last one -/
theorem rest_all {as : List (Nat × Nat × Nat)} {b t : Nat} (h1 : 1 ≤ b) (h3 : b ≤ 3) (ht : t < 15) (h : ∀ k ∈ pairsOf b, atR (stB b (x0 as) (t + 1)) k = atR (stB b (x0 as) t) k) :
    ∀ k ∈ pairsOf b, atR (stB b (x0 as) (t + 1)) k = atR (finB b as) k := by
  intro k hk
  by_cases e : b = 3
  · subst e
    have e : ∀ s, stB 3 (x0 as) s = stR (x0 as) s := fun s => if_pos rfl
    unfold finB
    simp only [e] at h ⊢
    have a0 := h (0, 1) (by decide)
    have a1 := h (0, 2) (by decide)
    have a2 := h (1, 2) (by decide)
    have fx : turnR (stR (x0 as) t) = stR (x0 as) t := Prod.ext a0 (Prod.ext a1 a2)
    rw [fix_after fx (t + 1) (by omega), fix_after fx 14 (by omega)]
  · unfold finB stB
    rw [if_neg e, if_neg e]
noncomputable def parR (x : R3) : Nat → R3
  | 0 => x
  | 1 => (updR x.1 x.2.1 x.2.2, x.2.1, x.2.2)
  | 2 => (updR x.1 x.2.1 x.2.2, updR x.2.1 (updR x.1 x.2.1 x.2.2) x.2.2, x.2.2)
  | _ + 3 => turnR x
noncomputable def parB (b : Nat) (x : R3) (i : Nat) : R3 := if b = 3 then parR x i else x
theorem par_at (x0 : R3) (t : Nat) {l : Nat × Nat} (h : l = (0, 1) ∨ l = (0, 2) ∨ l = (1, 2)) : ∀ i, ∃ t' p, atR (parR (stR x0 t) i) l = at3 (stR x0 t') p
  | 0 => by
    rcases h with rfl | rfl | rfl
    · exact ⟨t, 0, rfl⟩
    · exact ⟨t, 1, rfl⟩
    · exact ⟨t, 2, rfl⟩
  | 1 => by
    rcases h with rfl | rfl | rfl
    · exact ⟨t + 1, 0, rfl⟩
    · exact ⟨t, 1, rfl⟩
    · exact ⟨t, 2, rfl⟩
  | 2 => by
    rcases h with rfl | rfl | rfl
    · exact ⟨t + 1, 0, rfl⟩
    · exact ⟨t + 1, 1, rfl⟩
    · exact ⟨t, 2, rfl⟩
  | i + 3 => by
    rcases h with rfl | rfl | rfl
    · exact ⟨t + 1, 0, rfl⟩
    · exact ⟨t + 1, 1, rfl⟩
    · exact ⟨t + 1, 2, rfl⟩
/-- two pairs through q beside the i-th one -/
structure Beside (i : Nat) (kk : Nat × Nat) (q : Nat) (l m : Nat × Nat) : Prop where
  pl : ky (min (kk.1 : Int) (q : Int)) (max (kk.1 : Int) (q : Int)) = kyN l
  pm : ky (min (kk.2 : Int) (q : Int)) (max (kk.2 : Int) (q : Int)) = kyN m
  il : l ∈ pairsOf 3
  im : m ∈ pairsOf 3
  up : ∀ x n, n ∈ pairsOf 3 → (if n = kk then updR (atR (parR x i) kk) (atR (parR x i) l) (atR (parR x i) m) else atR (parR x i) n) = atR (parR x (i + 1)) n
theorem beside {i : Nat} {kk : Nat × Nat} {q : Nat} (h : (pairsOf 3)[i]? = some kk) (hq : q < 3) (h1 : q ≠ kk.1) (h2 : q ≠ kk.2) : q = 3 - kk.1 - kk.2 ∧ ∃ l m, Beside i kk q l m := by
  have hi : i < 3 := (List.getElem?_eq_some_iff.mp h).1
  have e : i = 0 ∨ i = 1 ∨ i = 2 := by omega
  rcases e with rfl | rfl | rfl <;> cases h
  · have : q = 2 := by simp only at h1 h2; omega
    subst this
    exact ⟨rfl, (0, 2), (1, 2), rfl, rfl, by decide, by decide, fun x n hn => by rcases pairs_in (b := 3) (by decide) (by decide) n hn with rfl | rfl | rfl <;> rfl⟩
  · have : q = 1 := by simp only at h1 h2; omega
    subst this
    exact ⟨rfl, (0, 1), (1, 2), rfl, rfl, by decide, by decide, fun x n hn => by rcases pairs_in (b := 3) (by decide) (by decide) n hn with rfl | rfl | rfl <;> rfl⟩
  · have : q = 0 := by simp only at h1 h2; omega
    subst this
    exact ⟨rfl, (0, 1), (0, 2), rfl, rfl, by decide, by decide, fun x n hn => by rcases pairs_in (b := 3) (by decide) (by decide) n hn with rfl | rfl | rfl <;> rfl⟩
theorem pairs_at {b i : Nat} {kk : Nat × Nat} (h1 : 1 ≤ b) (h3 : b ≤ 3) (h : (pairsOf b)[i]? = some kk) : kk.1 < b ∧ kk.2 < b ∧ kk.1 < kk.2 ∧ 3 - kk.1 - kk.2 < 3 ∧ (b = 2 → kk = (0, 1)) := by
  have hm := List.mem_of_getElem? h
  have e : b = 1 ∨ b = 2 ∨ b = 3 := by omega
  rcases e with rfl | rfl | rfl
  · have e0 : pairsOf 1 = [] := by decide
    rw [e0] at hm
    cases hm
  · revert hm
    have : ∀ k ∈ pairsOf 2, k.1 < 2 ∧ k.2 < 2 ∧ k.1 < k.2 ∧ 3 - k.1 - k.2 < 3 ∧ (2 = 2 → k = (0, 1)) := by decide
    exact this kk
  · revert hm
    have : ∀ k ∈ pairsOf 3, k.1 < 3 ∧ k.2 < 3 ∧ k.1 < k.2 ∧ 3 - k.1 - k.2 < 3 ∧ (3 = 2 → k = (0, 1)) := by decide
    exact this kk
structure HandPre (b : Nat) (as : List (Nat × Nat × Nat)) : Prop where
  b1 : 1 ≤ b
  b3 : b ≤ 3
  len : as.length ≤ 20
  good : ∀ a ∈ as, GoodAcc b a
  low : ∀ i j, i < j → ∀ c ∈ told as i j, c ≤ 24
def R_handed (ds : List PyData) (d : PyData) : Prop := ∃ (b : Nat) (s : Bool) (as : List (Nat × Nat × Nat)), HandPre b as ∧ ds = [.int b, Seq s (as.map accD)] ∧ d = handD b (finB b as)
theorem told_len (as : List (Nat × Nat × Nat)) (i j : Nat) : (told as i j).length ≤ as.length := by
  unfold told
  rw [List.length_map]
  exact List.length_filter_le _ _
theorem noP (ks : List (Nat × Nat)) : noLs (ks.map pairD) = true := noLs_all fun d hd => by obtain ⟨k, _, rfl⟩ := List.mem_map.mp hd; rfl
/-- a list of pairs beside a table that is written -/
theorem dpl_tab {H H' : Hp} {fo : Addr} {v : V} {ds : List PyData} {tab : List (TK × PyData)} (t : Tab K H fo tab) (b : Bts [fo] H H') (n : noLs ds = true) (h : Dp K H v (Seq true ds)) : Dp K H' v (Seq true ds) := by
  have hl := t.lsts
  obtain ⟨kvs, t1, _⟩ := t
  obtain ⟨a, xs, rfl, k1, k2⟩ := dp_lst h
  refine .lst ?_ (dpa_bts b hl n k2)
  rcases k1 with (k1 | ⟨o', k1⟩) | k1
  · refine .inl (.inl (b _ _ (fun z => ?_) k1))
    rw [List.mem_singleton.mp z, t1] at k1
    cases k1
  · refine .inl (.inr ⟨o', b _ _ (fun z => ?_) k1⟩)
    rw [List.mem_singleton.mp z, t1] at k1
    cases k1
  · exact .inr k1
/-- a def that is called by keywords, too -/
structure DfF (P : Program) (w : World) (K : PySem.W.Frag) (mg : Str → Option Value) (base : Heap) (x : Str) (st : Stmt) (k : Nat) (ps : List Str) (sp : Sp) : Prop where
  ok : ∃ (f : Addr) (fd : FuncData), Fun K x x st f fd ∧ FnOk P w K mg base CX0 k f fd ps sp ∧ mg x = some (.ref f) ∧ Binds K fd ps []
theorem DfF.df {x : Str} {st : Stmt} {k : Nat} {ps : List Str} {sp : Sp} (D : DfF P w K mg base x st k ps sp) : Df P w K mg base x k ps sp := by
  obtain ⟨f, fd, Fn, F, hm, hb⟩ := D.ok
  exact ⟨f, fd, F, hm, Fn.kp, hb⟩
theorem d_pureF {x : Str} {st : Stmt} {N ps : List Str} {k : Nat} {R : List PyData → PyData → Prop} (F : Fd K mg x st) (S : FnScope N ps (defScope st))
    (bd : ∀ (kV doc pm : Value) (an : Option Addr) (cdv ct : Value) (us : List Value), us.length = ps.length → bindArgs (PySem.W.fnOf x x (defArgs st) (defBody st) (defScope st) .none kV doc pm an cdv ct) ⟨us, []⟩ = pure (ps.zip us))
    (len : ∀ ds d, R ds d → ds.length = ps.length)
    (body : ∀ (f : Addr) (cdv : Value) (A : Around) (outer : List Env) (s : Shared) (H : Hp) (vs : List V) (ds : List PyData) (d : PyData) (Q : VK) (E : XK), Room k (A.deeper (envOfC x (defScope st) s.heap.objs.size f cdv)) → DpAll K H vs ds → R ds d →
      (∀ v H', Ex H H' → Dp K H' v d → Q v H') →
      ∃ t, PSs (cxOf CX0 P w K mg base N x (defScope st) f cdv A outer s H E).nox (defBody st) t ∧ t { nx := fun _ H' => Q .non H', rt := Q } (start N vs) H) : DfF P w K mg base x st (k + 1) ps (spP K R) := by
  obtain ⟨f, fd, F, hm⟩ := F.ex
  exact ⟨f, fd, F, F.ok S (fun vs H Q E ⟨ds, d, h1, h2, _⟩ => (dpa_len h1).trans (len ds d h2)) (fun cdv A outer s H vs Q E hr ⟨ds, d, h1, h2, q⟩ => body f cdv A outer s H vs ds d Q E hr h1 h2 q), hm, F.binds bd⟩
/-- handed_on(accords=e, bodies=e2) -/
theorem pe_callK0 {X : Cx} {x : Str} {k : Nat} {f : Addr} {fd : FuncData} {ps ks : List Str} {sp : Sp} {g : List Value → List Value → List Value} {gV : List V → List V → List V} {kws : List Keyword} {tk : TA} {p pos : Pos} {E : XK} {CX : CXT} (F : FnOk X.prog X.w X.K X.mg X.base CX k f fd ps sp) (hr : Room k X.A) (hg : Gl X x) (hm : X.mg x = some (.ref f)) (hk : PySem.W.keepIn X.K (.ref f) = true) (hb : KBinds X.K fd ps ks g gV) (hx : Passes CX X E)
    (hkw : PK X kws tk) (hall : (backToKw pos (keywordEach kws X.env)).all (·.1.isSome) = true := by rfl) (hks : (backToKw pos (keywordEach kws X.env)).filterMap (·.1) = ks := by rfl) (hdb : (x == ("__debug__" : Str)) = false := by decide)
    (hpl : ((backTo pos (starEach [] X.env)).any (·.1) || (backToKw pos (keywordEach kws X.env)).any (·.1.isNone)) = false := by rfl) : PE X (.Call (.Name x p) [] kws pos) (tCallK sp gV E tNil tk) := by
  refine ⟨fun pins s σ H Q I h => ?_⟩
  refine wpAny_Call_Name_kw (ld_glob I hg hm ?_ hdb)
  refine PySem.W.callWith_KW0 (h₀ := X.base) I.ok.mod.kin hk hall (thn (hkw.run pos pins s σ H _ I h) fun ws s2 ⟨zs, H2, I2, rz, q2⟩ => ⟨I2.kIn, ?_⟩) hpl
  rw [hks]
  exact run_fnk (us := []) (vs := []) F hr hb hx I2 .nil rz q2
def swapG {α : Type} : List α → List α → List α
  | [], [a, b] => [b, a]
  | _, _ => []
theorem pe_handK {X : Cx} {k : Nat} {sp : Sp} {kws : List Keyword} {tk : TA} {p pos : Pos} (D : DfF X.prog X.w X.K X.mg X.base "handed_on" s_handed_on k ["bodies", "accords"] sp) (hr : Room k X.A) (hg : Gl X "handed_on") (hkw : PK X kws tk)
    (hall : (backToKw pos (keywordEach kws X.env)).all (·.1.isSome) = true := by rfl) (hks : (backToKw pos (keywordEach kws X.env)).filterMap (·.1) = (["accords", "bodies"] : List Str) := by rfl)
    (hpl : ((backTo pos (starEach [] X.env)).any (·.1) || (backToKw pos (keywordEach kws X.env)).any (·.1.isNone)) = false := by rfl) : PE X (.Call (.Name "handed_on" p) [] kws pos) (tCallK sp swapG E0 tNil tk) := by
  obtain ⟨f, fd, Fn, F, hm, hb⟩ := D.ok
  refine pe_callK0 (g := swapG) (gV := swapG) F hr hg hm Fn.kp ?_ pass0 hkw hall hks (by decide) hpl
  obtain ⟨oc, od, kV, doc, pm, an, cdv, ct, osl, rfl, lk, hcd⟩ := Fn.ex
  refine ⟨fun s us ws hK hl => ?_, fun {vs us zs ws} r rz => ?_⟩
  · match us, ws, hl with
    | [], [a, b], _ => exact BindsTo.of_eq (by first | rfl | with_unfolding_all rfl)
  · cases r with
    | nil =>
      cases rz with
      | nil => exact .nil
      | cons r1 rz =>
        cases rz with
        | nil => exact .nil
        | cons r2 rz =>
          cases rz with
          | nil => exact .cons r2 (.cons r1 .nil)
          | cons r3 rz => exact .nil
    | cons r1 r2 => exact .nil
theorem d_handed_on (F : Fd K mg "handed_on" s_handed_on) (B : Nm mg) (D_check_accords : Df P w K mg base "check_accords" 5 ["bodies", "accords"] (spP K R_checkA)) (D_closing : Df P w K mg base "closing" 4 ["counts"] (spP K R_closing)) (D_told_counts : Df P w K mg base "told_counts" 1 ["accords", "one", "other"] (spP K R_told)) (D_both : Df P w K mg base "both" 6 ["one", "other"] (spP K R_both)) (D_together : Df P w K mg base "together" 7 ["one", "other"] (spP K R_together)) : DfF P w K mg base "handed_on" s_handed_on 8 ["bodies", "accords"] (spP K R_handed) := by
  refine d_pureF F sc_handed_on (fun _ _ _ _ _ _ us hl => match us, hl with | [_, _], _ => rfl) (by rintro _ _ ⟨b, s', as, hp, rfl, rfl⟩; rfl) fun f cdv A outer s H vs ds d Q E hr hds hR k => ?_
  have hu64 := hr.units
  have hu65 := room65 hr
  have hu1 := room1 hr
  obtain ⟨b, s', as, hp, rfl, rfl⟩ := hR
  obtain ⟨v0, v1, rfl, h0, h1⟩ := dpa2 hds
  cases dp_int h0
  have hb1 := hp.b1
  have hb3 := hp.b3
  have hal := hp.len
  have hnd := pairs_nodup hb1 hb3
  refine ⟨_, (pss_cons (ps_expr (pe_df D_check_accords (hr.mono (by decide)) (by rfl) (pa_cons (pv 0) (pa_cons (pv 1) pa_nil))))
      (pss_cons (ps_setLc2 (i := 4) (own := [("i", 2), ("j", 3)]) (vs1 := [3]) rfl sc_handed_on.nd rfl rfl (sw_true rfl rfl rfl (by decide +kernel)) (pi_range1 (by rfl) B.range (pa_cons (pv 0) pa_nil)) (blkOk_by (own := [("i", 2), ("j", 3)]) (N := N_handed_on) (sc := defScope s_handed_on) (by decide +kernel)) (by decide) (fun _ _ _ _ _ => (pg_name (i := 2) sc_handed_on.nd rfl (.inl rfl))) (fun _ _ _ _ _ => pts_nil) (fun _ _ _ _ _ => (pi_range2 (by rfl) B.range (pa_cons (pe_op (op_plusK (K := K) rfl) (pv 2) pe_int) (pa_cons (pv 0) pa_nil)))) (fun _ _ _ _ _ => (pg_name (i := 3) sc_handed_on.nd rfl (.inl rfl))) (fun _ _ _ _ _ => pts_nil) (fun _ _ _ _ _ => (pe_tup (pa_cons (pv 2) (pa_cons (pv 3) pa_nil)))))
      (pss_cons (ps_asg (pe_tup (pa_cons (pe_dcT (own := [("pair", 5)]) rfl sc_handed_on.nd (pi_seqK (K := K) rfl (pv 4)) (blkOk_by (own := [("pair", 5)]) (N := N_handed_on) (sc := defScope s_handed_on) (by decide +kernel)) hu1 (fun _ _ _ _ _ => (pg_name (i := 5) sc_handed_on.nd rfl (.inl rfl))) (fun _ _ _ _ _ => (pv 5)) (fun _ _ _ _ _ => (pe_df D_closing (hr.mono (by decide)) (by rfl) (pa_cons (pe_df D_told_counts (hr.mono (by decide)) (by rfl) (pa_cons (pv 1) (pa_cons (pe_ix (ix_K (K := K) rfl) (pv 5) pe_int (fun _ _ => rfl)) (pa_cons (pe_ix (ix_K (K := K) rfl) (pv 5) pe_int (fun _ _ => rfl)) pa_nil)))) pa_nil)))) (pa_cons pe_dnewT pa_nil))) (pg_tupK (K := K) (n := 2) rfl rfl (pgs_cons (pg_name (i := 6) sc_handed_on.nd rfl (.inr rfl)) (pgs_cons (pg_name (i := 7) sc_handed_on.nd rfl (.inl rfl)) pgs_nil))))
      (pss_cons (ps_while PassesOwn.never (pt_cmpR (op_neT (K := K) hu65 rfl) (pv 6) (pv 7) (nomark _)) (pss_cons (ps_setDcT (i := 7) (own := [("pair", 5)]) rfl sc_handed_on.nd rfl rfl (swd_true rfl rfl rfl (by decide +kernel)) (pi_seqK (K := K) rfl (pv 4)) (blkOk_by (own := [("pair", 5)]) (N := N_handed_on) (sc := defScope s_handed_on) (by decide +kernel)) hu1 (fun _ _ _ _ _ => (pg_name (i := 5) sc_handed_on.nd rfl (.inl rfl))) (fun _ _ _ _ _ => (pv 5)) (fun _ _ _ _ _ => (pe_dget hu1 (pv 6) (pv 5) (fun _ _ => rfl))))
      (pss_one (ps_for PassesOwn.never rfl (pi_seqK (K := K) rfl (pv 4)) (pg_tupK (K := K) (n := 2) rfl rfl (pgs_cons (pg_name (i := 2) sc_handed_on.nd rfl (.inl rfl)) (pgs_cons (pg_name (i := 3) sc_handed_on.nd rfl (.inl rfl)) pgs_nil))) (pss_one (ps_for PassesOwn.never rfl (pi_range1 (by rfl) B.range (pa_cons (pv 0) pa_nil)) (pg_name (i := 8) sc_handed_on.nd rfl (.inl rfl)) (pss_one (ps_if (pt_cmpR (op_notInK (K := K) rfl) (pv 8) (pe_tup (pa_cons (pv 2) (pa_cons (pv 3) pa_nil))) (by rfl)) (pss_cons (ps_set (i := 9) sc_handed_on.nd rfl (.inl rfl) (pe_df D_both (hr.mono (by decide)) (by rfl) (pa_cons (pe_dget hu1 (pv 6) (pe_tup (pa_cons (pe_callB (call_min2 rfl) (by rfl) B.min (by decide +kernel) (pa_cons (pv 2) (pa_cons (pv 8) pa_nil))) (pa_cons (pe_callB (call_max2 rfl) (by rfl) B.max (by decide +kernel) (pa_cons (pv 2) (pa_cons (pv 8) pa_nil))) pa_nil))) (fun _ _ => rfl)) (pa_cons (pe_dget hu1 (pv 6) (pe_tup (pa_cons (pe_callB (call_min2 rfl) (by rfl) B.min (by decide +kernel) (pa_cons (pv 3) (pa_cons (pv 8) pa_nil))) (pa_cons (pe_callB (call_max2 rfl) (by rfl) B.max (by decide +kernel) (pa_cons (pv 3) (pa_cons (pv 8) pa_nil))) pa_nil))) (fun _ _ => rfl)) pa_nil))))
      (pss_one (ps_dput hu1 (pv 6) (pe_tup (pa_cons (pv 2) (pa_cons (pv 3) pa_nil))) (pe_df D_together (hr.mono (by decide)) (by rfl) (pa_cons (pe_dget hu1 (pv 6) (pe_tup (pa_cons (pv 2) (pa_cons (pv 3) pa_nil))) (fun _ _ => rfl)) (pa_cons (pv 9) pa_nil))) rfl))) pss_nil))))))))
      (pss_one (ps_ret (pe_callTy call_tuple_of (by rfl) B.tuple (by decide +kernel) (pa_cons (pe_lc (own := [("i", 2), ("j", 3)]) rfl sc_handed_on.nd (pi_seqK (K := K) rfl (pv 4)) (blkOk_by (own := [("i", 2), ("j", 3)]) (N := N_handed_on) (sc := defScope s_handed_on) (by decide +kernel)) (fun _ _ _ _ _ => (pg_tupK (K := K) (n := 2) rfl rfl (pgs_cons (pg_name (i := 2) sc_handed_on.nd rfl (.inl rfl)) (pgs_cons (pg_name (i := 3) sc_handed_on.nd rfl (.inl rfl)) pgs_nil)))) (fun _ _ _ _ _ => pts_nil) (fun _ _ _ _ _ => (pe_tup (pa_cons (pv 2) (pa_cons (pv 3) (pa_cons (pe_dget hu1 (pv 6) (pe_tup (pa_cons (pv 2) (pa_cons (pv 3) pa_nil))) (fun _ _ => rfl)) pa_nil)))))) pa_nil)))))))), ?_⟩
  try dsimp only [cxOf, Cx.nox, Cx.wish]
  refine q_drop K (d := .none) (evd_call (ds := [.int b, Seq s' (as.map accD)]) (by walk_at "ea") ⟨b, s', as, hp.len, hp.good, rfl, rfl⟩) fun H1 e1 => ?_
  refine q_asgT (lc2_pairs (b := b) (by omega) fun pa H2 e2 npa pr2 => ?_)
  show tSeq _ _ _ _ _
  have dv1 : Dp K H2 v1 (Seq s' (as.map accD)) := dp_ex (by walk_at "ex") h1
  refine q_asgT (t_tup2 (dc_pairs (ks := pairsOf b) pr2 rfl (keys_nodup hnd) (by have := pairs_n hb1 hb3; omega) (fun k => rowD (clRow (told as k.1 k.2))) (fun k _ => noRow _) (fun kk hkk v H3 e3 tk => ⟨rfl, rfl, ?_⟩) fun fo H3 e3 nfo tf => ?_))
  · have dk : Dp K H3 v (.tuple [.int (kk.1 : Nat), .int (kk.2 : Nat)]) := tk.dp
    have h12 : kk.1 < kk.2 := by rcases pairs_in hb1 hb3 kk hkk with rfl | rfl | rfl <;> decide
    refine evd_call (ds := [.list ((told as kk.1 kk.2).map intN)]) (evda_cons (evd_call (ds := [Seq s' (as.map accD), .int (kk.1 : Nat), .int (kk.2 : Nat)]) (evda_cons (by walk_at "ev") (evda_cons (evd_op (by walk_at "ev") (by walk_at "ev") (rd_ixT rfl)) (evda_cons (evd_op (by walk_at "ev") (by walk_at "ev") (rd_ixT rfl)) evda_nil))) ⟨s', as, kk.1, kk.2, by omega, rfl, rfl⟩) evda_nil) ⟨true, told as kk.1 kk.2, ?_, fun c hc => ?_, rfl, rfl⟩
    · have := told_len as kk.1 kk.2
      omega
    · have := hp.low _ _ h12 c hc
      have : (2 : Nat) ^ 30 = 1073741824 := by decide
      omega
  intro q nq
  intro tp ntp
  refine ⟨tp, [.ref fo, .ref q], rfl, SqT.of upd_same, rfl, _, _, rfl, _, _, rfl, rfl, ?_⟩
  have e4 : Ex H3 (upd (upd H3 q (.dT [])) tp (.tup [.ref fo, .ref q])) := (Ex.new nq).trans (Ex.new ntp)
  have tq : Tab K (upd (upd H3 q (.dT [])) tp (.tup [.ref fo, .ref q])) q [] := (Tab.new upd_same).mono (Ex.new ntp)
  generalize upd (upd H3 q (.dT [])) tp (.tup [.ref fo, .ref q]) = H4 at e4 tq ⊢
  have hfo : H fo = none := fresh_ex (e1.trans e2) nfo
  have tf4 : Tab K H4 fo (tabOf (pairsOf b) (atR (stB b (x0 as) 0))) := by
    have : (pairsOf b).map (fun k => (ky (k.1 : Nat) (k.2 : Nat), rowD (clRow (told as k.1 k.2)))) = tabOf (pairsOf b) (atR (stB b (x0 as) 0)) := by
      refine List.map_congr_left fun k hk => ?_
      rw [x0_at (as := as) (pairs_in hb1 hb3 k hk)]
      have : stB b (x0 as) 0 = x0 as := by unfold stB; split <;> rfl
      rw [this]
    rw [← this]
    exact tf.mono e4
  refine q_while (fun m σ' H' => ∃ (t : Nat) (q : Addr) (prev : List (TK × PyData)) (x2 x3 x5 x8 x9 : Option V), m = 15 - t ∧ t ≤ 15 ∧ σ' = [some (.int (b : Nat)), some v1, x2, x3, some (.ref pa), x5, some (.ref fo), some (.ref q), x8, x9] ∧ Ex H H' ∧ Prs H' pa (pairsOf b) ∧
    Tab K H' fo (tabOf (pairsOf b) (atR (stB b (x0 as) t))) ∧ Tab K H' q prev ∧ ((t = 0 ∧ prev = []) ∨ ∃ t0, t = t0 + 1 ∧ prev = tabOf (pairsOf b) (atR (stB b (x0 as) t0)))) 15 ⟨0, q, [], _, _, _, _, _, rfl, by omega, rfl, by walk_at "ex", (pr2.mono e3).mono e4, tf4, tq, .inl ⟨rfl, rfl⟩⟩ ?_
  rintro m σ' H' ⟨t, q, prev, x2, x3, x5, x8, x9, rfl, ht, rfl, eH, pr, tf, tq, hprev⟩
  have sh0 : ∀ p ∈ ([] : List (TK × PyData)), SeqAt.shaped p.2 = true := fun p hp => nomatch hp
  obtain ⟨c, hc, hct⟩ : ∃ c, EvT (tTest (tOp (rNeT K) (tVar 6) (tVar 7))) [some (.int (b : Nat)), some v1, x2, x3, some (.ref pa), x5, some (.ref fo), some (.ref q), x8, x9] H' c ∧ ((c = true → t < 15) ∧ (c = false → ∀ k ∈ pairsOf b, atR (stB b (x0 as) t) k = atR (finB b as) k)) := by
    rcases hprev with ⟨rfl, rfl⟩ | ⟨t0, rfl, rfl⟩
    · refine ⟨_, et_neT (tab := tabOf (pairsOf b) (atR (stB b (x0 as) 0))) (tb := []) rfl rfl tf tq (fun z => ?_) (sh_tabOf _ _) sh0, fun _ => by omega, fun z k hk => ?_⟩
      · rw [List.length_eq_zero_iff.mp z]
      · exfalso
        rw [len_tabOf] at z
        have : (pairsOf b).length ≠ 0 := fun e => by rw [List.length_eq_zero_iff.mp e] at hk; cases hk
        rw [show ((pairsOf b).length == ([] : List (TK × PyData)).length) = false by simpa using this, Bool.false_and] at z
        cases z
    · refine ⟨_, et_is (et_neT (tab := tabOf (pairsOf b) (atR (stB b (x0 as) (t0 + 1)))) (tb := tabOf (pairsOf b) (atR (stB b (x0 as) t0))) rfl rfl tf tq (fun _ => by rw [tabOf_keys, tabOf_keys]) (sh_tabOf _ _) (sh_tabOf _ _)) (ne_tabOf hnd _ _), fun z => ?_, fun z => ?_⟩
      · by_cases h14 : t0 = 14
        · exfalso
          subst h14
          rw [decide_eq_true] at z
          · cases z
          · intro k hk
            by_cases e : b = 3
            · subst e
              have fx := (turns_all (told as 0 1) (told as 0 2) (told as 1 2) (hp.low 0 1 (by decide)) (hp.low 0 2 (by decide)) (hp.low 1 2 (by decide))).2.1
              have : stB 3 (x0 as) (14 + 1) = stB 3 (x0 as) 14 := by
                unfold stB
                rw [if_pos rfl, if_pos rfl]
                exact fx
              rw [this]
            · unfold stB
              rw [if_neg e, if_neg e]
        · omega
      · exact rest_all hb1 hb3 (by omega) (of_decide_eq_true (by simpa using z))
  refine ⟨c, hc, fun h H5 e5 => ?_, fun h H5 e5 => ?_⟩
  · have ht15 := hct.1 h
    have pr5 := pr.mono e5
    have tf5 := tf.mono e5
    refine q_asgT (dc_pairs (ks := pairsOf b) pr5 rfl (keys_nodup hnd) (by have := pairs_n hb1 hb3; omega) (fun k => rowD (atR (stB b (x0 as) t) k)) (fun k _ => noRow _) (fun kk hkk v H6 e6 tk => ⟨rfl, rfl, evd_getP (i := 6) (j := 5) rfl (tf5.mono e6) rfl tk (lk_tabOf hnd hkk)⟩) fun q' H6 e6 nq' tq' => ?_)
    have hqf : fo ∉ [q'] := fun z => by
      obtain ⟨kvs, h1, _⟩ := tf5
      rw [← List.mem_singleton.mp z, h1] at nq'
      cases nq'
    have hqf' : q' ∉ [fo] := fun z => hqf (List.mem_singleton.mpr (List.mem_singleton.mp z).symm)
    have pr6 := pr5.mono e6
    have tf6 := tf5.mono e6
    have dp6 : Dp K H6 (.ref pa) (.list ((pairsOf b).map pairD)) := pr6.dp
    refine s_for K (b := true) (ds := (pairsOf b).map pairD) (show EvD K _ _ _ (.list ((pairsOf b).map pairD)) from by walk_at "ev") fun v H7 e7 dv => ⟨fun i σ' H' => ∃ (x2 x3 x5 x8 x9 : Option V), σ' = [some (.int (b : Nat)), some v1, x2, x3, some (.ref pa), x5, some (.ref fo), some (.ref q'), x8, x9] ∧ Ex H H' ∧ Bts [fo] H7 H' ∧ Prs H' pa (pairsOf b) ∧
      Tab K H' fo (tabOf (pairsOf b) (atR (parB b (stB b (x0 as) t) i))) ∧ Tab K H' q' (tabOf (pairsOf b) (atR (stB b (x0 as) t))), ⟨_, _, _, _, _, rfl, by walk_at "ex", Bts.refl, pr6.mono e7, ?_, tq'.mono e7⟩, fun i σ' H' ⟨_, _, _, _, _, _, _, bb, _⟩ => ?_, ?_, ?_⟩
    · have e0 : parB b (stB b (x0 as) t) 0 = stB b (x0 as) t := by unfold parB; split <;> rfl
      rw [e0]
      exact tf6.mono e7
    · have dv7 : Dp K H7 v (Seq true ((pairsOf b).map pairD)) := dv
      exact dpl_tab (tf6.mono e7) bb (noP _) dv7
    · rintro i d x σ' H' hi dx ⟨x2, x3, x5, x8, x9, rfl, eH', bb, pr', tf', tq'⟩
      obtain ⟨kk, hk, rfl⟩ : ∃ p, (pairsOf b)[i]? = some p ∧ pairD p = d := by
        rw [List.getElem?_map] at hi
        cases hp : (pairsOf b)[i]? with
        | none => rw [hp] at hi; cases hi
        | some p => rw [hp] at hi; exact ⟨p, rfl, Option.some.inj hi⟩
      obtain ⟨k1, k2, k12, k3, kb2⟩ := pairs_at hb1 hb3 hk
      have hkm := List.mem_of_getElem? hk
      refine g_two (d := .int (kk.1 : Nat)) (e := .int (kk.2 : Nat)) dx fun y z dy dz => ?_
      cases dp_int dy
      cases dp_int dz
      refine s_forR K (n := b) (by walk_at "ea") (by omega) fun H8 e8 => ⟨fun c σ' H' => ∃ (x8 x9 : Option V), σ' = [some (.int (b : Nat)), some v1, some (.int (kk.1 : Nat)), some (.int (kk.2 : Nat)), some (.ref pa), x5, some (.ref fo), some (.ref q'), x8, x9] ∧ Ex H H' ∧ Bts [fo] H7 H' ∧ Prs H' pa (pairsOf b) ∧
        Tab K H' fo (tabOf (pairsOf b) (atR (parB b (stB b (x0 as) t) (if c ≤ 3 - kk.1 - kk.2 then i else i + 1)))) ∧ Tab K H' q' (tabOf (pairsOf b) (atR (stB b (x0 as) t))), ⟨x8, x9, rfl, by walk_at "ex", bb.ex e8, pr'.mono e8, ?_, tq'.mono e8⟩, ?_, ?_⟩
      · rw [if_pos (Nat.zero_le _)]
        exact tf'.mono e8
      · rintro c σ' H' hc ⟨x8, x9, rfl, eH', bb, pr', tf', tq'⟩
        have hno : (!([PyData.int (kk.1 : Nat), .int (kk.2 : Nat)].any fun z => PyData.eqv z (.int (c : Nat)))) = decide (c ≠ kk.1 ∧ c ≠ kk.2) := by
          show (!(((kk.1 : Int) == (c : Int)) || (((kk.2 : Int) == (c : Int)) || false))) = _
          rw [Bool.eq_iff_iff]
          simp
          omega
        refine s_when (b := decide (c ≠ kk.1 ∧ c ≠ kk.2)) (et_is (et_test (evd_op (d := .int (c : Nat)) (e := .tuple [.int (kk.1 : Nat), .int (kk.2 : Nat)]) (by walk_at "ev") (by walk_at "ev") (rd_inF (neg := true) (.inl rfl) rfl rfl))) hno) (fun h H9 e9 => ?_) (fun h H9 e9 => ?_)
        · have h := of_decide_eq_true h
          have e3 : b = 3 := by
            by_cases e : b = 2
            · have := kb2 e
              subst this
              simp only at h
              omega
            · omega
          subst e3
          have hx3 : stB 3 (x0 as) t = stR (x0 as) t := if_pos rfl
          have hp3 : ∀ i, parB 3 (stR (x0 as) t) i = parR (stR (x0 as) t) i := fun i => if_pos rfl
          obtain ⟨hc3, l, m', be⟩ := beside hk hc h.1 h.2
          simp only [hx3, hp3] at tf' ⊢
          rw [if_pos (by omega)] at tf'
          rw [if_neg (by omega)]
          have all := turns_all (told as 0 1) (told as 0 2) (told as 1 2) (hp.low 0 1 (by decide)) (hp.low 0 2 (by decide)) (hp.low 1 2 (by decide))
          obtain ⟨tk, pk, ek⟩ := par_at (x0 as) t (pairs_in (b := 3) (by decide) (by decide) kk hkm) i
          obtain ⟨tl, pl, el⟩ := par_at (x0 as) t (pairs_in (b := 3) (by decide) (by decide) l be.il) i
          obtain ⟨tm, pm, em⟩ := par_at (x0 as) t (pairs_in (b := 3) (by decide) (by decide) m' be.im) i
          have sk : Small (atR (parR (stR (x0 as) t) i) kk) := by rw [ek]; exact all.1 tk pk
          have sl : Small (atR (parR (stR (x0 as) t) i) l) := by rw [el]; exact all.1 tl pl
          have sm : Small (atR (parR (stR (x0 as) t) i) m') := by rw [em]; exact all.1 tm pm
          have lc : Nat.lcm (atR (parR (stR (x0 as) t) i) l).2 (atR (parR (stR (x0 as) t) i) m').2 ≤ 576 := by rw [el, em]; exact all.2.2 tl tm pl pm
          have bo : Ok (bothRow (atR (parR (stR (x0 as) t) i) l) (atR (parR (stR (x0 as) t) i) m')) := by
            refine ⟨(bothRow_row sl.v sm.v).ok, ?_, ?_⟩
            · have := bothRow_far sl.v sm.v
              have := sl.far
              have := sm.far
              omega
            · rw [bothRow_end sl.v sm.v]
              omega
          have up := be.up (stR (x0 as) t)
          generalize hf : atR (parR (stR (x0 as) t) i) = f at *
          have tf9 := tf'.mono e9
          have lkl : lk (tabOf (pairsOf 3) f) (ky (min (kk.1 : Int) (c : Int)) (max (kk.1 : Int) (c : Int))) = some (rowD (f l)) := by rw [be.pl]; exact lk_tabOf hnd be.il
          have lkm : lk (tabOf (pairsOf 3) f) (ky (min (kk.2 : Int) (c : Int)) (max (kk.2 : Int) (c : Int))) = some (rowD (f m')) := by rw [be.pm]; exact lk_tabOf hnd be.im
          refine q_set K (d := rowD (bothRow (f l) (f m'))) (evd_call (ds := [rowD (f l), rowD (f m')]) (evda_cons (evd_getT (i := 6) rfl tf9 lkl (by walk_at "ea")) (evda_cons (evd_getT (i := 6) rfl tf9 lkm (by walk_at "ea")) evda_nil)) ⟨f l, f m', sl.ok, sm.ok, by omega, rfl, rfl⟩) fun v9 H10 e10 d9 => ?_
          have tf10 := tf9.mono e10
          refine s_putT K (i := 6) (x := (kk.1 : Nat)) (y := (kk.2 : Nat)) (d := rowD (togR (f kk) (bothRow (f l) (f m')))) rfl tf10 (no_tabOf _ _) (noRow _) (by rw [len_tabOf, show (pairsOf 3).length = 3 by decide]; omega)
            (evd_call (ds := [rowD (f kk), rowD (bothRow (f l) (f m'))]) (evda_cons (evd_getT (i := 6) (x := (kk.1 : Nat)) (y := (kk.2 : Nat)) rfl tf10 (lk_tabOf hnd hkm) (by walk_at "ea")) (evda_cons (by walk_at "ev") evda_nil)) ⟨f kk, bothRow (f l) (f m'), sk.ok, bo, rfl, rfl⟩) (by walk_at "ea") fun H11 b11 tf11 => ?_
          have b12 : Bts [fo] H' H11 := (Bts.of (show Ex H' H10 by walk_at "ex")).trans b11
          have ls := tf10.lsts
          refine ⟨_, _, rfl, ex_bts (show Ex H H10 by walk_at "ex") b11 hfo, bb.trans b12, (pr'.mono (show Ex H' H10 by walk_at "ex")).bts b11 ls (ne_tab tf10 (pr'.mono (show Ex H' H10 by walk_at "ex"))), ?_, (tq'.mono (show Ex H' H10 by walk_at "ex")).bts b11 ls (no_tabOf _ _) hqf'⟩
          have q := put_tabOf (f := f) hkm (togR (f kk) (bothRow (f l) (f m')))
          rw [show ky ((kk.1 : Nat) : Int) ((kk.2 : Nat) : Int) = kyN kk from rfl, q] at tf11
          have : tabOf (pairsOf 3) (fun n => if n = kk then togR (f kk) (bothRow (f l) (f m')) else f n) = tabOf (pairsOf 3) (atR (parR (stR (x0 as) t) (i + 1))) := by
            refine List.map_congr_left fun n hn => ?_
            show (kyN n, rowD _) = (kyN n, rowD _)
            rw [← up n hn]
            rfl
          rw [← this]
          exact tf11
        · have h := of_decide_eq_false h
          refine ⟨_, _, rfl, by walk_at "ex", bb.ex e9, pr'.mono e9, ?_, tq'.mono e9⟩
          have : parB b (stB b (x0 as) t) (if c + 1 ≤ 3 - kk.1 - kk.2 then i else i + 1) = parB b (stB b (x0 as) t) (if c ≤ 3 - kk.1 - kk.2 then i else i + 1) := by
            by_cases e : b = 3
            · congr 1
              split <;> split <;> first | rfl | (exfalso; omega)
            · unfold parB
              rw [if_neg e, if_neg e]
          rw [this]
          exact tf'.mono e9
      · rintro σ' H' ⟨x8, x9, rfl, eH', bb, pr', tf', tq'⟩
        refine ⟨_, _, _, _, _, rfl, eH', bb, pr', ?_, tq'⟩
        have : parB b (stB b (x0 as) t) (if b ≤ 3 - kk.1 - kk.2 then i else i + 1) = parB b (stB b (x0 as) t) (i + 1) := by
          by_cases e : b = 3
          · rw [if_neg (by omega)]
          · unfold parB
            rw [if_neg e, if_neg e]
        rw [← this]
        exact tf'
    · rintro σ' H' ⟨x2, x3, x5, x8, x9, rfl, eH', bb, pr', tf', tq'⟩
      refine ⟨15 - (t + 1), by omega, t + 1, q', _, _, _, _, _, _, rfl, by omega, rfl, eH', pr', ?_, tq', .inr ⟨t, rfl, rfl⟩⟩
      have : parB b (stB b (x0 as) t) ((pairsOf b).map pairD).length = stB b (x0 as) (t + 1) := by
        rw [List.length_map]
        unfold parB stB
        by_cases e : b = 3
        · subst e
          rw [if_pos rfl, if_pos rfl, if_pos rfl, show (pairsOf 3).length = 3 by decide]
          rfl
        · rw [if_neg e, if_neg e, if_neg e]
      rw [← this]
      exact tf'
  · have hf := hct.2 h
    have pr5 := pr.mono e5
    have tf5 := tf.mono e5
    have dp5 : Dp K H5 (.ref pa) (.list ((pairsOf b).map pairD)) := pr5.dp
    refine s_ret K (d := handD b (finB b as)) (evd_is (evd_cb (evda_cons (evd_lcI (b := true) pairD (pairsOf b) (fun _ => true) (fun k => .tuple [.int (k.1 : Nat), .int (k.2 : Nat), rowD (atR (finB b as) k)]) (show EvD K _ _ _ (.list ((pairsOf b).map pairD)) from by walk_at "ev") (by have := pairs_n hb1 hb3; omega) (fun k hk _ => ?_) fun k hk => ?_) evda_nil) rc_tupL) (by rw [filter_yes]; rfl)) fun v H6 e6 dv => k v H6 (by walk_at "ex") dv
    · show (true && (true && (noL (rowD _) && true))) = true
      rw [noRow]; rfl
    · refine lct_two (fun v u => rfl) fun v u H7 e7 dv du => ⟨et_yes, fun _ => ?_⟩
      cases dp_int dv
      cases dp_int du
      exact evd_tup (evda_cons (by walk_at "ev") (evda_cons (by walk_at "ev") (evda_cons (evd_getT (tab := tabOf (pairsOf b) (atR (stB b (x0 as) t))) (x := (k.1 : Nat)) (y := (k.2 : Nat)) rfl (tf5.mono e7) (by rw [lk_tabOf hnd hk, hf k hk]) (by walk_at "ea")) evda_nil))) (by walk_at "ln")
end Bw
end
section
set_option Elab.async false
set_option linter.all false
set_option maxRecDepth 100000
set_option maxHeartbeats 8000000
namespace Bw
open PySem PySem.Spec PyProof.Rows L2 Bfb
local macro_rules | `(tactic| walk_at "ex") => `(tactic| first
  | assumption
  | exact Ex.refl _
  | (refine Ex.trans ?_ (by assumption); walk_at "ex"))
local macro_rules | `(tactic| walk_at "om") => `(tactic| first | omega | assumption | (left; constructor <;> omega) | (right; constructor <;> omega) | decide)
local macro_rules | `(tactic| walk_at "ln") => `(tactic| first | decide | (simp only [List.length_cons, List.length_nil, List.length_append, List.length_map]; omega))
local macro_rules | `(tactic| walk_at "rd") => `(tactic| first
  | with_reducible exact rd_plus
  | with_reducible exact rd_sub
  | with_reducible exact rd_lt
  | with_reducible exact rd_le
  | with_reducible exact rd_gt
  | with_reducible exact rd_ge
  | with_reducible exact rd_eqI
  | with_reducible exact rd_neI
  | ((with_reducible apply rd_eqD); rfl; rfl)
  | ((with_reducible apply rd_neD); rfl; rfl)
  | ((with_reducible apply rd_mul); walk_at "om")
  | ((with_reducible apply rd_div); walk_at "om"; walk_at "om")
  | ((with_reducible apply rd_mod); walk_at "om")
  | ((with_reducible apply rd_divW); walk_at "om"; walk_at "om")
  | ((with_reducible apply rd_ixT); rfl)
  | ((with_reducible apply rd_ixL); rfl)
  | with_reducible exact rd_isNi
  | with_reducible exact rd_isNn
  | with_reducible exact rd_isNt
  | with_reducible exact rd_notNn)
local macro_rules | `(tactic| walk_at "ev") => `(tactic| first
  | with_reducible exact evd_int
  | ((with_reducible apply evd_varI); rfl)
  | ((with_reducible apply evd_varB); rfl)
  | ((with_reducible apply evd_var); rfl; assumption; walk_at "ex")
  | with_reducible exact evd_bl
  | with_reducible exact evd_non
  | with_reducible exact evd_str
  | ((with_reducible apply evd_op); walk_at "ev"; walk_at "ev"; walk_at "rd")
  | ((with_reducible apply evd_tup); walk_at "ea"; walk_at "ln")
  | ((with_reducible apply evd_lst); walk_at "ea"; walk_at "ln")
  | ((with_reducible apply evd_isInt); walk_at "ev")
  | ((with_reducible apply evd_isBool); walk_at "ev")
  | ((with_reducible apply evd_isTuple); walk_at "ev")
  | ((with_reducible apply evd_cb); walk_at "ea"; walk_at "rc")
  | with_reducible exact evd_neg1
  | ((with_reducible apply evd_notV); walk_at "ev")
  | ((with_reducible apply evd_call); walk_at "ea"; assumption))
local macro_rules | `(tactic| walk_at "ea") => `(tactic| first
  | with_reducible exact evda_nil
  | ((with_reducible apply evda_cons); walk_at "ev"; walk_at "ea")
  | ((with_reducible apply evda_starT); walk_at "ev"; walk_at "ea")
  | ((with_reducible apply evda_starL); walk_at "ev"; walk_at "ea"))
local macro_rules | `(tactic| walk_at "rc") => `(tactic| first
  | with_reducible exact rc_len
  | with_reducible exact rc_lenT
  | with_reducible exact rc_tupL
  | with_reducible exact rc_tupT
  | with_reducible exact rc_listL
  | with_reducible exact rc_listT
  | with_reducible exact rc_min2
  | with_reducible exact rc_max2
  | with_reducible exact rc_int1
  | with_reducible exact rc_abs
  | with_reducible exact rc_all
  | with_reducible exact rc_sum)
local macro_rules | `(tactic| walk_at "et") => `(tactic| first
  | ((with_reducible apply et_test (K := ‹PySem.W.Frag›)); walk_at "ev")
  | ((with_reducible apply et_B (K := ‹PySem.W.Frag›)); walk_at "ev")
  | ((with_reducible apply et_not); walk_at "et"))

variable {P : Program} {w : World} {K : PySem.W.Frag} {mg : Str → Option Value} {base : Heap}
abbrev s_law_divisor : Stmt := topS 44
abbrev N_law_divisor : List Str := ["_law_one", "_law_other"]
theorem sc_law_divisor : FnScope N_law_divisor ["_law_one", "_law_other"] (defScope s_law_divisor) := ⟨rfl, rfl, rfl, by decide +kernel, rfl, by decide +kernel, by decide +kernel⟩
abbrev s_law_runs : Stmt := topS 46
abbrev N_law_runs : List Str := ["_law_steps", "_law_found", "_law_step"]
theorem sc_law_runs : FnScope N_law_runs ["_law_steps"] (defScope s_law_runs) := ⟨rfl, rfl, rfl, by decide +kernel, rfl, by decide +kernel, by decide +kernel⟩
abbrev s_law_closing : Stmt := topS 47
abbrev N_law_closing : List Str := ["_law_counts", "_law_count", "_law_left", "_law_runs_here", "_law_step", "_law_turns"]
theorem sc_law_closing : FnScope N_law_closing ["_law_counts"] (defScope s_law_closing) := ⟨rfl, rfl, rfl, by decide +kernel, rfl, by decide +kernel, by decide +kernel⟩
abbrev s_law_in : Stmt := topS 48
abbrev N_law_in : List Str := ["_law_falling", "_law_bound", "_law_runs_here", "_law_end", "_law_found", "_law_at_here", "_law_step", "_law_times", "_law_turn", "_law_count"]
theorem sc_law_in : FnScope N_law_in ["_law_falling", "_law_bound"] (defScope s_law_in) := ⟨rfl, rfl, rfl, by decide +kernel, rfl, by decide +kernel, by decide +kernel⟩
abbrev s_law_has : Stmt := topS 54
abbrev N_law_has : List Str := ["_law_falling", "_law_count", "_law_left", "_law_step", "_law_times"]
theorem sc_law_has : FnScope N_law_has ["_law_falling", "_law_count"] (defScope s_law_has) := ⟨rfl, rfl, rfl, by decide +kernel, rfl, by decide +kernel, by decide +kernel⟩
abbrev s_law_starts : Stmt := topS 53
abbrev N_law_starts : List Str := ["_law_falling", "_law_found", "_law_at_here", "_law_step", "_law_times"]
theorem sc_law_starts : FnScope N_law_starts ["_law_falling"] (defScope s_law_starts) := ⟨rfl, rfl, rfl, by decide +kernel, rfl, by decide +kernel, by decide +kernel⟩
abbrev s_law_both : Stmt := topS 49
abbrev N_law_both : List Str := ["_law_one", "_law_other", "_law_end", "_law_step", "_law_times", "_law_far", "_law_bound", "_law_first", "_law_second", "_law_count", "_law_found", "_law_at_here", "_law_steps"]
theorem sc_law_both : FnScope N_law_both ["_law_one", "_law_other"] (defScope s_law_both) := ⟨rfl, rfl, rfl, by decide +kernel, rfl, by decide +kernel, by decide +kernel⟩
def R_ldivisor (ds : List PyData) (d : PyData) : Prop := ∃ a b : Nat, ds = [.int a, .int b] ∧ d = .int (Nat.gcd a b : Nat)
theorem d_int {σ : L2.St} {H : Hp} {te : TE} {a b : Int} (h : EvD K te σ H (.int a)) (e : a = b) : EvD K te σ H (.int b) := e ▸ h
theorem d_law_divisor (F : Fd K mg "_law_divisor" s_law_divisor) (B : Nm mg) : Df P w K mg base "_law_divisor" 1 ["_law_one", "_law_other"] (spP K R_ldivisor) := by
  refine d_pure F sc_law_divisor (fun _ _ _ _ _ _ us hl => match us, hl with | [_, _], _ => rfl) (by rintro _ _ ⟨a, b, rfl, rfl⟩; rfl) fun f cdv A outer s H vs ds d Q E hr hds hR k => ?_
  have hu64 := hr.units
  have hu65 := room65 hr
  have hu1 := room1 hr
  obtain ⟨a, b, rfl, rfl⟩ := hR
  obtain ⟨v0, v1, rfl, h0, h1⟩ := dpa2 hds
  cases dp_int h0
  cases dp_int h1
  refine ⟨_, (pss_cons (ps_while PassesOwn.never (pt_cmpR op_gt (pv 1) pe_int (nomark _)) (pss_one (ps_par (i := 0) (j := 1) (by rfl) sc_law_divisor.nd rfl rfl (by decide) rfl rfl (pa_cons (pv 1) (pa_cons (pe_op op_modN (pe_callTy call_int1 (by rfl) B.int (by decide +kernel) (pa_cons (pv 0) pa_nil)) (pv 1)) pa_nil)) (by rfl))))
      (pss_one (ps_ret (pv 0)))), ?_⟩
  try dsimp only [cxOf, Cx.nox, Cx.wish]
  refine q_while (fun m σ' H' => ∃ x y : Nat, y = m ∧ σ' = [some (.int x), some (.int y)] ∧ Ex H H' ∧ Nat.gcd x y = Nat.gcd a b) b ⟨a, b, rfl, rfl, Ex.refl _, rfl⟩ ?_
  rintro m σ' H' ⟨x, y, rfl, rfl, e1, hg⟩
  refine ⟨decide ((0 : Int) < (y : Int)), by walk_at "et", fun hy H1 e2 => ?_, fun hy H1 e2 => ?_⟩
  · have hy : (0 : Int) < (y : Int) := of_decide_eq_true hy
    have hy' : 0 < y := by omega
    refine s_par K (d := .int (y : Int)) (e := .int ((x : Int).fmod y)) (by walk_at "ea") fun v u H2 e3 dv du => ?_
    cases dp_int dv
    cases dp_int du
    rw [fmodN]
    refine ⟨x % y, Nat.mod_lt _ hy', y, x % y, rfl, rfl, by walk_at "ex", ?_⟩
    rw [← hg, Nat.gcd_comm x y, Nat.gcd_comm y (x % y), ← Nat.gcd_rec]
  · have hy : y = 0 := by have := of_decide_eq_false hy; omega
    subst hy
    rw [Nat.gcd_zero_right] at hg
    exact s_ret K (d := .int (x : Int)) (by walk_at "ev") fun v H2 e3 dv => k v H2 (by walk_at "ex") (by rw [← hg]; exact dv)
theorem eqv_nil (r : Runs) : PyData.eqv (.list (r.map runD)) (.list []) = decide (r = []) := by
  cases r with
  | nil => rfl
  | cons p r => simp [PyData.eqv, PyData.eqvAll]
theorem shaped_runsL (r : Runs) : SeqAt.shaped (.list (r.map runD)) = true := by
  have h1 := depth_runs r
  have h2 : (PyData.list (r.map runD)).depth ≤ 64 := by simp only [PyData.depth]; omega
  have h3 : (PyData.list (r.map runD)).canLay0 = true := by simp only [PyData.canLay0, canLay_runs]
  unfold SeqAt.shaped
  rw [h3, decide_eq_true h2]
  rfl
/-- found != [] and found[-1][0] == step -/
theorem et_lastN {H : Hp} {σ : L2.St} {p : Addr} {acc : Runs} {x i : Nat} {tx : TE} (o : Own K H p (acc.map runD)) (hv : σ[i]? = some (some (.ref p))) (hx : ∀ H1, Ex H H1 → EvD K tx σ H1 (.int (x : Nat))) : ∃ c, EvT (tAnd (tTest (tOp (rNeD K) (tVar i) (tLst tNil)))
          (tTest (tOp (rEqD K) (tOp (rIx K) (tOp (rIx K) (tVar i) (tUn (rU fun i => V.int (-i)) (tC (V.int 1)))) (tC (V.int 0))) tx))) σ H c ∧ (c = true ↔ ∃ t0, acc.getLast? = some (x, t0)) := by
  have dp := o.dp
  have ne : EvT (tTest (tOp (rNeD K) (tVar i) (tLst tNil))) σ H (!decide (acc = [])) := et_test (evd_is (evd_op (evd_var hv dp (Ex.refl _)) (evd_lst (ds := []) evda_nil (by decide)) (rd_neD (shaped_runsL acc) rfl)) (by rw [eqv_nil]))
  cases hl : acc.getLast? with
  | none =>
    have : acc = [] := List.getLast?_eq_none_iff.mp hl
    subst this
    exact ⟨false, et_is (et_and (a := false) (b := true) ne fun z => nomatch z) rfl, by simp⟩
  | some q =>
    obtain ⟨s0, t0⟩ := q
    have hne : acc ≠ [] := fun z => by rw [z] at hl; cases hl
    refine ⟨true && decide ((s0 : Int) = (x : Int)), et_and (et_is ne (by simpa using hne)) fun _ =>
      et_test (evd_op (evd_op (evd_op (evd_var hv dp (Ex.refl _)) evd_neg1 (rd_ixL (at_last (runs_last hl)).1)) evd_int (rd_ixT (f := .int (s0 : Nat)) rfl)) (hx H (Ex.refl _)) rd_eqI), ?_⟩
    rw [Bool.true_and, decide_eq_true_eq]
    constructor
    · intro h; exact ⟨t0, by rw [show s0 = x by omega]⟩
    · rintro ⟨t1, h⟩
      cases h
      rfl
def R_lruns (ds : List PyData) (d : PyData) : Prop := ∃ l : List Nat, l.length ≤ 95000 ∧ ds = [.list (l.map intN)] ∧ d = runsD (runsOf l)
theorem runsOf_len : ∀ (l : List Nat) (acc : Runs), (l.foldl (fun acc s => pushR acc s 1) acc).length ≤ acc.length + l.length
  | [], acc => Nat.le_refl _
  | s :: l, acc => by
    have h1 := runsOf_len l (pushR acc s 1)
    have h2 := push_len acc s 1
    rw [List.foldl_cons, List.length_cons]
    omega
theorem runsOf_take {l : List Nat} {i s : Nat} (h : l[i]? = some s) : runsOf (l.take (i + 1)) = pushR (runsOf (l.take i)) s 1 := by
  unfold runsOf
  rw [take_snoc h, List.foldl_append]
  rfl
theorem d_law_runs (F : Fd K mg "_law_runs" s_law_runs) (B : Nm mg) : Df P w K mg base "_law_runs" 1 ["_law_steps"] (spP K R_lruns) := by
  refine d_pure F sc_law_runs (fun _ _ _ _ _ _ us hl => match us, hl with | [_], _ => rfl) (by rintro _ _ ⟨l, hl, rfl, rfl⟩; rfl) fun f cdv A outer s H vs ds d Q E hr hds hR k => ?_
  have hu64 := hr.units
  have hu65 := room65 hr
  have hu1 := room1 hr
  obtain ⟨l, hl, rfl, rfl⟩ := hR
  obtain ⟨v0, rfl, h0⟩ := dpa1 hds
  refine ⟨_, (pss_cons (ps_set (i := 1) sc_law_runs.nd rfl (.inl rfl) (pe_lst pa_nil))
      (pss_cons (ps_for PassesOwn.never rfl (pi_seqK (K := K) rfl (pv 0)) (pg_name (i := 2) sc_law_runs.nd rfl (.inl rfl)) (pss_one (ps_if (PW.pt (pw_and (pt_cmpR (op_neK (K := K) hu64 rfl) (pv 1) (pe_lst pa_nil) (nomark _)) (pw_and1 (pt_cmpR (op_eqK (K := K) hu64 rfl) (pe_ix (ix_K (K := K) rfl) (pe_ix (ix_K (K := K) rfl) (pv 1) (pe_un un_neg pe_int) (fun _ _ => rfl)) pe_int (fun _ _ => rfl)) (pv 2) (nomark _))))) (pss_one (ps_asg (pe_tup (pa_cons (pv 2) (pa_cons (pe_op (op_plusK (K := K) rfl) (pe_ix (ix_K (K := K) rfl) (pe_ix (ix_K (K := K) rfl) (pv 1) (pe_un un_neg pe_int) (fun _ _ => rfl)) pe_int (fun _ _ => rfl)) pe_int) pa_nil))) (pg_sub (pv 1) (pe_un un_neg pe_int) set_list))) (pss_one (ps_expr (pe_bm PySem.F.plainAttrs_list PySem.F.slot_list_append PySem.F.type_list_append mt_append (pv 1) (pa_cons (pe_tup (pa_cons (pv 2) (pa_cons pe_int pa_nil))) pa_nil)))))))
      (pss_one (ps_ret (pe_callTy call_tuple_of (by rfl) B.tuple (by decide +kernel) (pa_cons (pv 1) pa_nil)))))), ?_⟩
  try dsimp only [cxOf, Cx.nox, Cx.wish]
  refine q_new K fun p H1 e1 np op => ?_
  have h1 := dp_ex e1 h0
  refine q_forV K (b := true) (ds := l.map intN) rfl h1 ⟨fun i σ' H' => ∃ (x2 : Option V), σ' = [some v0, some (.ref p), x2] ∧ Bts [p] H1 H' ∧ Own K H' p ((runsOf (l.take i)).map runD), ⟨none, rfl, Bts.refl, op⟩, fun i σ' H' ⟨_, _, b, o⟩ => dp_ex (ex_bts e1 b np) h0, ?_, ?_⟩
  · rintro i d x σ' H' hi dx ⟨x2, rfl, b, o⟩
    obtain ⟨s, hs, rfl⟩ : ∃ s, l[i]? = some s ∧ intN s = d := by
      rw [List.getElem?_map] at hi
      cases hp : l[i]? with
      | none => rw [hp] at hi; cases hi
      | some s => rw [hp] at hi; exact ⟨s, rfl, Option.some.inj hi⟩
    have dx : Dp K H' x (.int (s : Nat)) := dx
    cases dp_int dx
    obtain ⟨c, hc, hcc⟩ := et_lastN (x := s) (i := 1) (σ := [some v0, some (.ref p), some (.int (s : Nat))]) (tx := tVar 2) o rfl (fun H1 e => by walk_at "ev")
    have dp := o.dp
    have hlen := runsOf_len (l.take i) []
    have hil := (List.getElem?_eq_some_iff.mp hs).1
    rw [List.length_take] at hlen
    refine s_push (t := 1) o rfl (by show (runsOf (l.take i)).length < 100000; unfold runsOf; simp only [List.length_nil] at hlen; omega) hc hcc (fun t0 hl0 H7 e7 => ?_) (fun H7 e7 => ?_) fun H7 b7 o7 => ?_
    · have a7 := (at_last (runs_last hl0)).1
      exact evd_is (d := .tuple [.int (s : Nat), .int ((t0 : Int) + 1)]) (evd_tup (evda_cons (by walk_at "ev") (evda_cons (evd_op (evd_op (evd_op (by walk_at "ev") evd_neg1 (rd_ixL a7)) (by walk_at "ev") (rd_ixT (f := .int (t0 : Nat)) rfl)) (by walk_at "ev") (by walk_at "rd")) evda_nil)) (by walk_at "ln")) rfl
    · exact show EvD K _ _ _ (.tuple [.int (s : Nat), .int 1]) from by walk_at "ev"
    · exact ⟨_, rfl, b.trans b7, by rw [runsOf_take hs]; exact o7⟩
  · rintro σ' H' ⟨x2, rfl, b, o⟩
    rw [List.length_map, List.take_length] at o
    have dp := o.dp
    exact s_ret K (d := runsD (runsOf l)) (show EvD K _ _ _ (.tuple ((runsOf l).map runD)) from by walk_at "ev") fun v H2 e2 dv => k v H2 ((ex_bts e1 b np).trans e2) dv
def R_lhas (ds : List PyData) (d : PyData) : Prop := ∃ (r : Runs) (e c : Nat), Sm r ∧ ds = [rowD (r, e), .int c] ∧ d = .bool (within r e c)
theorem d_law_has (F : Fd K mg "_law_has" s_law_has) (B : Nm mg) : Df P w K mg base "_law_has" 1 ["_law_falling", "_law_count"] (spP K R_lhas) := by
  refine d_pure F sc_law_has (fun _ _ _ _ _ _ us hl => match us, hl with | [_, _], _ => rfl) (by rintro _ _ ⟨r, e, c, hsm, rfl, rfl⟩; rfl) fun f cdv A outer s H vs ds d Q E hr hds hR k => ?_
  have hu64 := hr.units
  have hu65 := room65 hr
  have hu1 := room1 hr
  obtain ⟨r, e, c, hsm, rfl, rfl⟩ := hR
  obtain ⟨v0, v1, rfl, h0, h1⟩ := dpa2 hds
  cases dp_int h1
  refine ⟨_, (pss_cons (ps_set (i := 2) sc_law_has.nd rfl (.inl rfl) (pv 1))
      (pss_cons (ps_for PassesOwn.never rfl (pi_seqK (K := K) rfl (pe_ix (ix_K (K := K) rfl) (pv 0) pe_int (fun _ _ => rfl))) (pg_tupK (K := K) (n := 2) rfl rfl (pgs_cons (pg_name (i := 3) sc_law_has.nd rfl (.inl rfl)) (pgs_cons (pg_name (i := 4) sc_law_has.nd rfl (.inl rfl)) pgs_nil))) (pss_cons (ps_if (pt_cmpR op_lt (pv 2) (pe_op op_mul (pv 3) (pv 4)) (nomark _)) (pss_one (ps_ret (pe_cmpR (op_eqK (K := K) hu64 rfl) (pe_op op_modN (pe_callTy call_int1 (by rfl) B.int (by decide +kernel) (pa_cons (pv 2) pa_nil)) (pv 3)) pe_int (nomark _)))) pss_nil)
      (pss_one (ps_aug (i := 2) sc_law_has.nd rfl (.inl rfl) (pe_op op_mul (pv 3) (pv 4)) ip_sub))))
      (pss_one (ps_ret (pe_ifExp (pt_cmpR (op_eqK (K := K) hu64 rfl) (pe_ix (ix_K (K := K) rfl) (pv 0) pe_int (fun _ _ => rfl)) pe_int (nomark _)) (pe_cmpR (op_eqK (K := K) hu64 rfl) (pv 2) pe_int (nomark _)) (pe_cmpR (op_eqK (K := K) hu64 rfl) (pe_op op_modN (pe_callTy call_int1 (by rfl) B.int (by decide +kernel) (pa_cons (pv 2) pa_nil)) (pe_ix (ix_K (K := K) rfl) (pv 0) pe_int (fun _ _ => rfl))) pe_int (nomark _))))))), ?_⟩
  try dsimp only [cxOf, Cx.nox, Cx.wish]
  have h0 : Dp K H v0 (.tuple [.tuple (r.map runD), .int (e : Nat)]) := h0
  refine q_set K (d := .int (c : Int)) (by walk_at "ev") fun v2 H1 e1 d2 => ?_
  cases dp_int d2
  refine q_for K (b := false) (ds := r.map runD) (show EvD K _ _ _ (.tuple (r.map runD)) from by walk_at "ev") fun v H2 e2 dv => ⟨fun i σ' H' => ∃ (l : Nat) (x3 x4 : Option V), σ' = [some v0, some (.int (c : Nat)), some (.int (l : Nat)), x3, x4] ∧ Ex H2 H' ∧ within r e c = within (r.drop i) e l, ⟨c, none, none, rfl, Ex.refl _, rfl⟩, fun i σ' H' ⟨_, _, _, _, q, _⟩ => dp_ex q dv, ?_, ?_⟩
  · rintro i d x σ' H' hi dx ⟨l, x3, x4, rfl, e3, hw⟩
    obtain ⟨⟨s, t⟩, hp, rfl⟩ : ∃ p, r[i]? = some p ∧ runD p = d := by
      rw [List.getElem?_map] at hi
      cases hp : r[i]? with
      | none => rw [hp] at hi; cases hi
      | some p => rw [hp] at hi; exact ⟨p, rfl, Option.some.inj hi⟩
    have sm := hsm _ (List.mem_of_getElem? hp)
    have sm1 : s < 2 ^ 60 := sm.1
    have sm2 : t < 2 ^ 60 := sm.2
    have dx : Dp K H' x (.tuple [.int (s : Int), .int (t : Int)]) := dx
    refine g_two dx fun y z dy dz => ?_
    cases dp_int dy
    cases dp_int dz
    rw [drop_cons hp, within_c] at hw
    have cm : CMul (s : Int) (t : Int) := by left; constructor <;> omega
    refine q_when (b := decide ((l : Int) < (s : Int) * (t : Int))) (et_test (K := K) (evd_op (by walk_at "ev") (evd_op (by walk_at "ev") (by walk_at "ev") (rd_mul cm)) rd_lt)) (fun hlt H4 e5 => ?_) (fun hlt H4 e5 => ?_)
    · have hlt : l < s * t := by have := of_decide_eq_true hlt; rw [← Int.natCast_mul] at this; omega
      have hs : s ≠ 0 := fun z => by rw [z] at hlt; simp at hlt
      rw [if_pos hlt] at hw
      refine s_ret K (d := .bool (decide ((l : Int).fmod (s : Int) = 0))) (by walk_at "ev") fun v H5 e6 dv => k v H5 (by walk_at "ex") ?_
      rw [hw]
      have : decide (l % s = 0) = decide ((l : Int).fmod (s : Int) = 0) := decide_eq_decide.mpr (by rw [fmodN]; omega)
      rw [this]
      exact dv
    · have hlt : ¬ l < s * t := by have := of_decide_eq_false hlt; rw [← Int.natCast_mul] at this; omega
      rw [if_neg hlt] at hw
      refine s_augS K rfl (evd_op (by walk_at "ev") (by walk_at "ev") (rd_mul cm)) fun H5 e6 => ?_
      refine ⟨l - s * t, some (.int (s : Nat)), some (.int (t : Nat)), ?_, by walk_at "ex", hw⟩
      have : (l : Int) - (s : Int) * (t : Int) = ((l - s * t : Nat) : Int) := by rw [← Int.natCast_mul]; omega
      rw [this]
      rfl
  · rintro σ' H' ⟨l, x3, x4, rfl, e3, hw⟩
    rw [List.length_map, List.drop_length] at hw
    have hw : within r e c = decide (l % e = 0) := hw
    refine s_ret K (d := .bool (within r e c)) (evd_if (b := decide ((e : Int) = 0)) (by walk_at "et") (fun h => ?_) (fun h => ?_)) fun v H5 e6 dv => k v H5 (by walk_at "ex") dv
    · have h : e = 0 := by have := of_decide_eq_true h; omega
      subst h
      exact evd_is (d := .bool (decide ((l : Int) = 0))) (by walk_at "ev") (by rw [hw, Nat.mod_zero]; congr 1; exact decide_eq_decide.mpr (by omega))
    · have h : e ≠ 0 := by have := of_decide_eq_false h; omega
      exact evd_is (d := .bool (decide ((l : Int).fmod (e : Int) = 0))) (by walk_at "ev") (by rw [hw]; congr 1; exact decide_eq_decide.mpr (by rw [fmodN]; omega))
def R_lstarts (ds : List PyData) (d : PyData) : Prop := ∃ R : Bfb.Row, Ok R ∧ ds = [rowD R] ∧ d = .list ((startsR R).map intN)
theorem d_law_starts (F : Fd K mg "_law_starts" s_law_starts) (B : Nm mg) : Df P w K mg base "_law_starts" 1 ["_law_falling"] (spP K R_lstarts) := by
  refine d_pure F sc_law_starts (fun _ _ _ _ _ _ us hl => match us, hl with | [_], _ => rfl) (by rintro _ _ ⟨R, hR, rfl, rfl⟩; rfl) fun f cdv A outer s H vs ds d Q E hr hds hR k => ?_
  have hu64 := hr.units
  have hu65 := room65 hr
  have hu1 := room1 hr
  obtain ⟨R, hR, rfl, rfl⟩ := hR
  obtain ⟨v0, rfl, h0⟩ := dpa1 hds
  obtain ⟨r, e⟩ := R
  refine ⟨_, (pss_cons (ps_par (i := 1) (j := 2) (by rfl) sc_law_starts.nd rfl rfl (by decide) rfl rfl (pa_cons (pe_lst pa_nil) (pa_cons pe_int pa_nil)) (by rfl))
      (pss_cons (ps_for PassesOwn.never rfl (pi_seqK (K := K) rfl (pe_ix (ix_K (K := K) rfl) (pv 0) pe_int (fun _ _ => rfl))) (pg_tupK (K := K) (n := 2) rfl rfl (pgs_cons (pg_name (i := 3) sc_law_starts.nd rfl (.inl rfl)) (pgs_cons (pg_name (i := 4) sc_law_starts.nd rfl (.inl rfl)) pgs_nil))) (pss_cons (ps_expr (pe_bm PySem.F.plainAttrs_list PySem.F.slot_list_append PySem.F.type_list_append mt_append (pv 1) (pa_cons (pe_op (op_plusK (K := K) rfl) (pv 2) (pv 3)) pa_nil)))
      (pss_one (ps_aug (i := 2) sc_law_starts.nd rfl (.inl rfl) (pe_op op_mul (pv 3) (pv 4)) ip_add))))
      (pss_one (ps_ret (pe_op (op_plusK (K := K) rfl) (pv 1) (pe_lst (pa_cons (pe_op (op_plusK (K := K) rfl) (pv 2) (pe_ix (ix_K (K := K) rfl) (pv 0) pe_int (fun _ _ => rfl))) pa_nil))))))), ?_⟩
  try dsimp only [cxOf, Cx.nox, Cx.wish]
  have hl : r.length ≤ 30 := hR.len
  have hf : far r < 65536 := hR.far
  have h0 : Dp K H v0 (.tuple [.tuple (r.map runD), .int (e : Nat)]) := h0
  refine q_parND K (d := .int 0) (by walk_at "ev") fun p v2 H1 e1 np op d2 => ?_
  cases dp_int d2
  have nr : noL (.tuple (r.map runD)) = true := noR r
  refine q_for K (b := false) (ds := r.map runD) (show EvD K _ _ _ (.tuple (r.map runD)) from by walk_at "ev") fun v H3 e3 dv => ⟨fun i σ' H' => ∃ (x6 x7 : Option V), σ' = [some v0, some (.ref p), some (.int (far (r.take i) : Nat)), x6, x7] ∧ Bts [p] H3 H' ∧
      Own K H' p ((sB (r.take i) 0).map intN), ⟨none, none, rfl, Bts.refl, op.mono e3⟩, fun i σ' H' ⟨_, _, _, b, o1⟩ => dp_bts b (lsts1 (op.mono e3)) nr dv, ?_, ?_⟩
  · rintro i d x σ' H' hi dx ⟨x6, x7, rfl, b, o1⟩
    obtain ⟨⟨s, t⟩, hp, rfl⟩ : ∃ p, r[i]? = some p ∧ runD p = d := by
      rw [List.getElem?_map] at hi
      cases hp : r[i]? with
      | none => rw [hp] at hi; cases hi
      | some p => rw [hp] at hi; exact ⟨p, rfl, Option.some.inj hi⟩
    have ro := run_ok hR.v hp
    have hs : s < 65536 := Nat.lt_of_le_of_lt ro.sle hf
    have hil := (List.getElem?_eq_some_iff.mp hp).1
    have dx : Dp K H' x (.tuple [.int (s : Int), .int (t : Int)]) := dx
    refine g_two dx fun y z dy dz => ?_
    cases dp_int dy
    cases dp_int dz
    have lp : ((sB (r.take i) 0).map intN).length < 100000 := by rw [List.length_map, sB_len, List.length_take]; omega
    refine q_app K o1 rfl (noI _) (d := .int ((far (r.take i) : Nat) + (s : Nat) : Int)) rfl lp (by walk_at "ev") fun H4 b4 o4 => ?_
    refine s_aug K rfl (d_int (by walk_at "ev") (show ((s : Int) * (t : Int)) = ((s * t : Nat) : Int) by rw [Int.natCast_mul])) fun H5 e5 => ?_
    refine ⟨some (.int (s : Nat)), some (.int (t : Nat)), ?_, b.trans (b4.ex e5), ?_⟩
    · rw [take_snoc hp, far_snoc]
      rfl
    · rw [take_snoc hp, sB_snoc, List.map_append]
      simpa [intN] using o4.mono e5
  · rintro σ' H' ⟨x6, x7, rfl, b, o1⟩
    rw [List.length_map, List.take_length] at *
    have dp := o1.dp
    have h0' : Dp K H' v0 (.tuple [.tuple (r.map runD), .int (e : Nat)]) := dp_ex (ex_bts (e1.trans e3) b np) h0
    refine s_ret K (d := .list ((startsR (r, e)).map intN)) (evd_is (evd_op (d := .list ((sB r 0).map intN)) (e := .list [.int ((far r : Nat) + (e : Nat) : Int)]) (by walk_at "ev") (by walk_at "ev") (rd_plusL (by simp only [List.length_map, sB_len, List.length_cons, List.length_nil]; omega))) ?_) fun v H5 e6 dv => k v H5 ((ex_bts (e1.trans e3) b np).trans e6) dv
    show PyData.list _ = .list ((starts r e).map intN)
    rw [starts_eq, List.map_append]
    rfl
end Bw
end
section
set_option Elab.async false
set_option linter.all false
set_option maxRecDepth 100000
set_option maxHeartbeats 8000000
namespace Bw
open PySem PySem.Spec PyProof.Rows L2 Bfb
local macro_rules | `(tactic| walk_at "ex") => `(tactic| first
  | assumption
  | exact Ex.refl _
  | (refine Ex.trans ?_ (by assumption); walk_at "ex"))
local macro_rules | `(tactic| walk_at "om") => `(tactic| first | omega | assumption | (left; constructor <;> omega) | (right; constructor <;> omega) | decide)
local macro_rules | `(tactic| walk_at "ln") => `(tactic| first | decide | (simp only [List.length_cons, List.length_nil, List.length_append, List.length_map]; omega))
local macro_rules | `(tactic| walk_at "rd") => `(tactic| first
  | with_reducible exact rd_plus
  | with_reducible exact rd_sub
  | with_reducible exact rd_lt
  | with_reducible exact rd_le
  | with_reducible exact rd_gt
  | with_reducible exact rd_ge
  | with_reducible exact rd_eqI
  | with_reducible exact rd_neI
  | ((with_reducible apply rd_eqD); rfl; rfl)
  | ((with_reducible apply rd_neD); rfl; rfl)
  | ((with_reducible apply rd_mul); walk_at "om")
  | ((with_reducible apply rd_div); walk_at "om"; walk_at "om")
  | ((with_reducible apply rd_mod); walk_at "om")
  | ((with_reducible apply rd_divW); walk_at "om"; walk_at "om")
  | ((with_reducible apply rd_ixT); rfl)
  | ((with_reducible apply rd_ixL); rfl)
  | with_reducible exact rd_isNi
  | with_reducible exact rd_isNn
  | with_reducible exact rd_isNt
  | with_reducible exact rd_notNn)
local macro_rules | `(tactic| walk_at "ev") => `(tactic| first
  | with_reducible exact evd_int
  | ((with_reducible apply evd_varI); rfl)
  | ((with_reducible apply evd_varB); rfl)
  | ((with_reducible apply evd_var); rfl; assumption; walk_at "ex")
  | with_reducible exact evd_bl
  | with_reducible exact evd_non
  | with_reducible exact evd_str
  | ((with_reducible apply evd_op); walk_at "ev"; walk_at "ev"; walk_at "rd")
  | ((with_reducible apply evd_tup); walk_at "ea"; walk_at "ln")
  | ((with_reducible apply evd_lst); walk_at "ea"; walk_at "ln")
  | ((with_reducible apply evd_isInt); walk_at "ev")
  | ((with_reducible apply evd_isBool); walk_at "ev")
  | ((with_reducible apply evd_isTuple); walk_at "ev")
  | ((with_reducible apply evd_cb); walk_at "ea"; walk_at "rc")
  | with_reducible exact evd_neg1
  | ((with_reducible apply evd_notV); walk_at "ev")
  | ((with_reducible apply evd_call); walk_at "ea"; assumption))
local macro_rules | `(tactic| walk_at "ea") => `(tactic| first
  | with_reducible exact evda_nil
  | ((with_reducible apply evda_cons); walk_at "ev"; walk_at "ea")
  | ((with_reducible apply evda_starT); walk_at "ev"; walk_at "ea")
  | ((with_reducible apply evda_starL); walk_at "ev"; walk_at "ea"))
local macro_rules | `(tactic| walk_at "rc") => `(tactic| first
  | with_reducible exact rc_len
  | with_reducible exact rc_lenT
  | with_reducible exact rc_tupL
  | with_reducible exact rc_tupT
  | with_reducible exact rc_listL
  | with_reducible exact rc_listT
  | with_reducible exact rc_min2
  | with_reducible exact rc_max2
  | with_reducible exact rc_int1
  | with_reducible exact rc_abs
  | with_reducible exact rc_all
  | with_reducible exact rc_sum)
local macro_rules | `(tactic| walk_at "et") => `(tactic| first
  | ((with_reducible apply et_test (K := ‹PySem.W.Frag›)); walk_at "ev")
  | ((with_reducible apply et_B (K := ‹PySem.W.Frag›)); walk_at "ev")
  | ((with_reducible apply et_not); walk_at "et"))

variable {P : Program} {w : World} {K : PySem.W.Frag} {mg : Str → Option Value} {base : Heap}
def SortedL (ns L : List Nat) : Prop := L.Pairwise (· ≤ ·) ∧ L.Perm ns
theorem perm_nats {ns : List Nat} {l : List Int} (h : l.Perm (ns.map fun (n : Nat) => (n : Int))) : ∃ N : List Nat, l = N.map (fun (n : Nat) => (n : Int)) ∧ N.Perm ns := by
  obtain ⟨N, rfl⟩ := nats_of (L := l) fun k hk => by
    obtain ⟨n, _, rfl⟩ := List.mem_map.mp ((h.mem_iff).mp hk)
    exact Int.natCast_nonneg n
  refine ⟨N, rfl, ?_⟩
  have := h.map Int.toNat
  simpa [List.map_map, Function.comp_def] using this
section
variable {σ : L2.St} {H : Hp} {te : TE} {D : Ends} {tz : TS}
theorem ev_sortL {ns : List Nat} (hz : ns.length < 64) (ht : EvD K te σ H (.list (ns.map intN))) {H1 : Hp} (g : Ex H H1) {Q : VK} (q : ∀ L v H2, SortedL ns L → Ex H1 H2 → Dp K H2 v (.list (L.map intN)) → Q v H2) :
    (tCB (rSorted K) (tCons te tNil)) σ H1 Q :=
  ht H1 g _ fun v H2 g2 dv => by
    obtain ⟨a, xs, rfl, h1, h2⟩ := dp_lst dv
    rw [← ints_nat] at h2
    rw [dpa_ints h2] at h1
    refine ⟨a, _, rfl, h1, by rw [List.length_map]; exact hz, fun l p hp hs hn => ?_⟩
    obtain ⟨N, rfl, hN⟩ := perm_nats hp
    refine q N _ _ ⟨?_, hN⟩ (g2.trans (Ex.new hn)) (.lst (SqL.of upd_same) (by rw [← ints_nat]; exact ints_dpa _))
    rw [List.pairwise_map] at hs
    exact hs.imp fun h => by omega
variable (K) in
theorem s_sortL {ns : List Nat} {i : Nat} (hz : ns.length < 64) (ht : EvD K te σ H (.list (ns.map intN))) (k : ∀ L v H1, SortedL ns L → Ex H H1 → Dp K H1 v (.list (L.map intN)) → D.nx (σ.set i (some v)) H1) :
    tAsg (tCB (rSorted K) (tCons te tNil)) (gName i) D σ H := ev_sortL hz ht (Ex.refl H) k
variable (K) in
theorem q_sortLN {ns : List Nat} {i j : Nat} (hz : ns.length < 64) (ht : EvD K te σ H (.list (ns.map intN))) (k : ∀ L v p H1, SortedL ns L → Ex H H1 → H p = none → Own K H1 p [] → Dp K H1 v (.list (L.map intN)) → tz D ((σ.set i (some v)).set j (some (.ref p))) H1) :
    tSeq (tPar i j (tCons (tCB (rSorted K) (tCons te tNil)) (tCons (tLst tNil) tNil))) tz D σ H :=
  ev_sortL hz ht (Ex.refl H) fun L v H1 hs e1 dv => ⟨Nat.zero_le _, fun p np => ⟨v, .ref p, rfl, k L v p _ hs (e1.trans (Ex.new np)) (fresh_ex e1 np) (Own.new upd_same) (dp_ex (Ex.new np) dv)⟩⟩
end
theorem eqv_nilN (r : List Nat) : PyData.eqv (.list (r.map intN)) (.list []) = decide (r = []) := by
  cases r with
  | nil => rfl
  | cons p r => simp [PyData.eqv, PyData.eqvAll]
theorem shaped_nats (r : List Nat) : SeqAt.shaped (.list (r.map intN)) = true := by
  rw [← ints_nat]
  exact PySem.W.shaped_ints _
theorem le_last {l : List Nat} {z : Nat} (h : l.Pairwise (· ≤ ·)) (hz : l.getLast? = some z) : ∀ c ∈ l, c ≤ z := fun c hc => by
  rw [← last_of hz] at h hc
  rcases List.mem_append.mp hc with hc | hc
  · exact (List.pairwise_append.mp h).2.2 c hc z List.mem_cons_self
  · rw [List.mem_singleton.mp hc]
    exact Nat.le_refl _
def R_lclosing (ds : List PyData) (d : PyData) : Prop := ∃ l : List Nat, l.length < 64 ∧ (∀ c ∈ l, c < 2 ^ 30) ∧ ds = [.list (l.map intN)] ∧ d = rowD (clRow l)
theorem d_law_closing (F : Fd K mg "_law_closing" s_law_closing) (B : Nm mg) : Df P w K mg base "_law_closing" 1 ["_law_counts"] (spP K R_lclosing) := by
  refine d_pure F sc_law_closing (fun _ _ _ _ _ _ us hl => match us, hl with | [_], _ => rfl) (by rintro _ _ ⟨l, hz, hb, rfl, rfl⟩; rfl) fun f cdv A outer s H vs ds d Q E hr hds hR k => ?_
  have hu64 := hr.units
  have hu65 := room65 hr
  have hu1 := room1 hr
  obtain ⟨l, hz, hb, rfl, rfl⟩ := hR
  obtain ⟨v0, rfl, h0⟩ := dpa1 hds
  refine ⟨_, (pss_cons (ps_par (i := 2) (j := 3) (by rfl) sc_law_closing.nd rfl rfl (by decide) rfl rfl (pa_cons (pe_callB cr_sorted (by rfl) B.sorted (by decide +kernel) (pa_cons (pe_lc (own := [("_law_count", 1)]) rfl sc_law_closing.nd (pi_seqK (K := K) rfl (pv 0)) (blkOk_by (own := [("_law_count", 1)]) (N := N_law_closing) (sc := defScope s_law_closing) (by decide +kernel)) (fun _ _ _ _ _ => (pg_name (i := 1) sc_law_closing.nd rfl (.inl rfl))) (fun _ _ _ _ _ => pts_one (pt_cmpR op_gt (pv 1) pe_int (nomark _))) (fun _ _ _ _ _ => (pv 1))) pa_nil)) (pa_cons (pe_lst pa_nil) pa_nil)) (by rfl))
      (pss_cons (ps_if (pt_cmpR (op_eqK (K := K) hu64 rfl) (pv 2) (pe_lst pa_nil) (nomark _)) (pss_one (ps_ret (pe_tup (pa_cons (pe_tup pa_nil) (pa_cons pe_int pa_nil))))) pss_nil)
      (pss_cons (ps_while PassesOwn.never (pt_cmpR op_gt (pe_ix (ix_K (K := K) rfl) (pv 2) (pe_un un_neg pe_int) (fun _ _ => rfl)) (pe_ix (ix_K (K := K) rfl) (pv 2) pe_int (fun _ _ => rfl)) (nomark _)) (pss_cons (ps_set (i := 4) sc_law_closing.nd rfl (.inr rfl) (pe_ix (ix_K (K := K) rfl) (pv 2) pe_int (fun _ _ => rfl)))
      (pss_cons (ps_set (i := 5) sc_law_closing.nd rfl (.inr rfl) (pe_lc (own := [("_law_count", 1)]) rfl sc_law_closing.nd (pi_seqK (K := K) rfl (pv 2)) (blkOk_by (own := [("_law_count", 1)]) (N := N_law_closing) (sc := defScope s_law_closing) (by decide +kernel)) (fun _ _ _ _ _ => (pg_name (i := 1) sc_law_closing.nd rfl (.inl rfl))) (fun _ _ _ _ _ => pts_one (pt_cmpR op_gt (pe_op op_modN (pe_callTy call_int1 (by rfl) B.int (by decide +kernel) (pa_cons (pv 1) pa_nil)) (pv 4)) pe_int (nomark _))) (fun _ _ _ _ _ => (pe_op op_fdivN (pv 1) (pv 4)))))
      (pss_cons (ps_if (pt_cmpR (op_eqK (K := K) hu64 rfl) (pv 5) (pe_lst pa_nil) (nomark _)) (pss_one ps_break) pss_nil)
      (pss_cons (ps_expr (pe_bm PySem.F.plainAttrs_list PySem.F.slot_list_append PySem.F.type_list_append mt_append (pv 3) (pa_cons (pe_tup (pa_cons (pv 4) (pa_cons (pe_callB (cr_minK (K := K) rfl rfl) (by rfl) B.min (by decide +kernel) (pa_cons (pv 5) pa_nil)) pa_nil))) pa_nil)))
      (pss_one (ps_set (i := 2) sc_law_closing.nd rfl (.inl rfl) (pe_callB cr_sorted (by rfl) B.sorted (by decide +kernel) (pa_cons (pe_op (op_plusK (K := K) rfl) (pe_lst (pa_cons (pv 4) pa_nil)) (pe_lc (own := [("_law_count", 1)]) rfl sc_law_closing.nd (pi_seqK (K := K) rfl (pv 2)) (blkOk_by (own := [("_law_count", 1)]) (N := N_law_closing) (sc := defScope s_law_closing) (by decide +kernel)) (fun _ _ _ _ _ => (pg_name (i := 1) sc_law_closing.nd rfl (.inl rfl))) (fun _ _ _ _ _ => pts_one (pt_cmpR op_gt (pv 1) (pe_op op_mul (pv 4) (pe_callB (cr_minK (K := K) rfl rfl) (by rfl) B.min (by decide +kernel) (pa_cons (pv 5) pa_nil))) (nomark _))) (fun _ _ _ _ _ => (pe_op op_sub (pv 1) (pe_op op_mul (pv 4) (pe_callB (cr_minK (K := K) rfl rfl) (by rfl) B.min (by decide +kernel) (pa_cons (pv 5) pa_nil))))))) pa_nil)))))))))
      (pss_one (ps_ret (pe_tup (pa_cons (pe_callTy call_tuple_of (by rfl) B.tuple (by decide +kernel) (pa_cons (pv 3) pa_nil)) (pa_cons (pe_ix (ix_K (K := K) rfl) (pv 2) pe_int (fun _ _ => rfl)) pa_nil)))))))), ?_⟩
  try dsimp only [cxOf, Cx.nox, Cx.wish]
  have fl := List.length_filter_le (fun c => decide (0 < c)) l
  refine q_sortLN K (ns := l.filter fun c => decide (0 < c)) (by omega) (evd_lcI (b := true) intN l (fun c => decide (0 < c)) intN (show EvD K _ _ _ (.list (l.map intN)) from by walk_at "ev") (by omega) (fun _ _ _ => rfl) fun c hc => ?_) fun L v p H1 hs e1 np op dv => ?_
  · refine lct_name (fun v => rfl) fun v H1 e dv => ?_
    have dv : Dp K H1 v (.int (c : Nat)) := dv
    cases dp_int dv
    exact ⟨et_is (a := decide ((0 : Int) < (c : Int))) (by walk_at "et") (by simp), fun _ => show EvD K _ _ _ (.int (c : Nat)) from by walk_at "ev"⟩
  have hfl := cl_len hb
  have hmemL : ∀ c, c ∈ L ↔ c ∈ l ∧ 0 < c := fun c => by
    rw [hs.2.mem_iff, List.mem_filter]
    simp
  have hLl : L.length < 64 := by rw [hs.2.length_eq]; omega
  have hcL : clRow l = clRow L := by
    refine clRow_congr (fun c hc => ?_) fun c hc => Cl.base ((hmemL c).mp hc).1
    by_cases h0 : 0 < c
    · exact Cl.base ((hmemL c).mpr ⟨hc, h0⟩)
    · rw [show c = 0 by omega]
      exact (Cl.closed _).zero
  refine q_when (b := decide (L = [])) (et_test (evd_is (evd_op (d := .list (L.map intN)) (e := .list []) (by walk_at "ev") (by walk_at "ev") (rd_eqD (shaped_nats L) rfl)) (by rw [eqv_nilN]))) (fun h H2 e2 => ?_) (fun h H2 e2 => ?_)
  · have h := of_decide_eq_true h
    subst h
    rw [cl_nil (L := []) (fun c hc => nomatch hc)] at hcL
    refine s_ret K (d := rowD (clRow l)) (evd_is (d := .tuple [.tuple [], .int 0]) (by walk_at "ev") (by rw [hcL]; rfl)) fun v H3 e3 dv => k v H3 (by walk_at "ex") dv
  have hLne := of_decide_eq_false h
  have fin : ∀ (rs : Runs) (a : Nat) (L0 : List Nat) (vl : V) (x4 x5 : Option V) (H' : Hp), Bts [p] H2 H' → Own K H' p (rs.map runD) → Dp K H' vl (.list ((a :: L0).map intN)) → clRow l = (rs, a) →
      tRet (tTup (tCons (tCB (fun xs H Q => ∃ p ys, xs = [V.ref p] ∧ ((SqL K H p ys ∧ ∀ (l : Addr), H l = none → Q (V.ref l) (upd H l (HO.tup ys))) ∨ SqT K H p ys ∧ Q (V.ref p) H)) (tCons (tVar 3) tNil)) (tCons (tOp (rIx K) (tVar 2) (tC (V.int 0))) tNil)))
        { nx := fun x H' => Q V.non H', rt := Q } [some v0, none, some vl, some (.ref p), x4, x5] H' := fun rs a L0 vl x4 x5 H' b o dl hcl => by
    have a0 : atI ((a :: L0).map intN) (0 : Int) = some (.int (a : Nat)) := at_nat (i := 0) rfl
    have dp := o.dp
    exact s_ret K (d := rowD (clRow l)) (evd_is (d := .tuple [.tuple (rs.map runD), .int (a : Nat)]) (evd_tup (evda_cons (by walk_at "ev") (evda_cons (evd_op (d := .list ((a :: L0).map intN)) (by walk_at "ev") (by walk_at "ev") (rd_ixL a0)) evda_nil)) (by walk_at "ln")) (by rw [hcl]; rfl)) fun v H3 e3 dv => k v H3 ((ex_bts (e1.trans e2) b np).trans e3) dv
  refine q_while (fun m σ' H' => ∃ (a : Nat) (L0 : List Nat) (rs : Runs) (vl : V) (x4 x5 : Option V), a = m ∧ σ' = [some v0, none, some vl, some (.ref p), x4, x5] ∧ Bts [p] H2 H' ∧ Own K H' p (rs.map runD) ∧ Dp K H' vl (.list ((a :: L0).map intN)) ∧
    (a :: L0).Pairwise (· ≤ ·) ∧ (∀ c ∈ a :: L0, 0 < c ∧ c < 2 ^ 30) ∧ (a :: L0).length < 64 ∧ clRow l = (rs ++ (clRow (a :: L0)).1, (clRow (a :: L0)).2)) (L.headD 0) ?_ ?_
  · obtain ⟨a, L0, rfl⟩ : ∃ a L0, L = a :: L0 := by
      cases L with
      | nil => exact absurd rfl hLne
      | cons a L0 => exact ⟨a, L0, rfl⟩
    exact ⟨a, L0, [], v, none, none, rfl, rfl, Bts.refl, op.mono e2, dp_ex e2 dv, hs.1, fun c hc => ⟨((hmemL c).mp hc).2, hb c ((hmemL c).mp hc).1⟩, hLl, by rw [hcL]; rfl⟩
  rintro m σ' H' ⟨a, L0, rs, vl, x4, x5, rfl, rfl, b1, o1, dl, hasc, hpos, hlen, hcl⟩
  obtain ⟨z, hzl⟩ : ∃ z, (a :: L0).getLast? = some z := ⟨_, List.getLast?_eq_some_getLast (List.cons_ne_nil _ _)⟩
  have hd := head_le hasc fun c hc => (hpos c hc).1
  have ha := hpos a List.mem_cons_self
  have a0 : atI ((a :: L0).map intN) (0 : Int) = some (.int (a : Nat)) := at_nat (i := 0) rfl
  have a9 : atI ((a :: L0).map intN) (-1 : Int) = some (.int (z : Nat)) := (at_last (by rw [List.getLast?_map, hzl]; rfl)).1
  refine ⟨decide ((a : Int) < (z : Int)), et_test (evd_op (evd_op (d := .list ((a :: L0).map intN)) (by walk_at "ev") evd_neg1 (rd_ixL a9)) (evd_op (d := .list ((a :: L0).map intN)) (by walk_at "ev") (by walk_at "ev") (rd_ixL a0)) rd_gt), fun h H3 e3 => ?_, fun h H3 e3 => ?_⟩
  case refine_2 =>
    have h : ¬ (a : Int) < (z : Int) := of_decide_eq_false h
    have hfl : clRow (a :: L0) = ([], a) := cl_flat hd fun c hc => by
      have h1 := hd.min c hc
      have h2 := le_last hasc hzl c hc
      rw [show c = a by omega, Nat.mod_self]
    rw [hfl, List.append_nil] at hcl
    exact fin rs a L0 vl x4 x5 H3 (b1.ex e3) (o1.mono e3) (dp_ex e3 dl) hcl
  refine q_set K (d := .int (a : Nat)) (evd_op (d := .list ((a :: L0).map intN)) (by walk_at "ev") (by walk_at "ev") (rd_ixL a0)) fun v4 H4 e4 d4 => ?_
  cases dp_int d4
  let T : List Nat := ((a :: L0).filter fun c => decide (0 < c % a)).map fun c => c / a
  refine q_set K (d := .list (T.map intN)) (evd_is (evd_lcI (b := true) intN (a :: L0) (fun c => decide (0 < c % a)) (fun c => intN (c / a)) (show EvD K _ _ _ (.list ((a :: L0).map intN)) from by walk_at "ev") (by omega) (fun _ _ _ => rfl) fun c hc => ?_) (by rw [List.map_map]; rfl)) fun v5 H5 e5 d5 => ?_
  · refine lct_name (fun v => rfl) fun v H1 e dv => ?_
    have dv : Dp K H1 v (.int (c : Nat)) := dv
    cases dp_int dv
    refine ⟨et_is (a := decide ((0 : Int) < (c : Int).fmod (a : Int))) (by walk_at "et") (decide_eq_decide.mpr (by rw [fmodN]; omega)), fun _ => ?_⟩
    exact evd_is (d := .int ((c : Int).fdiv (a : Int))) (by walk_at "ev") (by rw [fdivN]; rfl)
  have o5 := o1.mono (e3.trans (e4.trans e5))
  have p5 := o5.dp
  refine q_when (b := decide (T = [])) (et_test (evd_is (evd_op (d := .list (T.map intN)) (e := .list []) (by walk_at "ev") (by walk_at "ev") (rd_eqD (shaped_nats T) rfl)) (by rw [eqv_nilN]))) (fun hT H6 e6 => ?_) (fun hT H6 e6 => ?_)
  · have hT := of_decide_eq_true hT
    have hfl : clRow (a :: L0) = ([], a) := cl_flat hd fun c hc => by
      have h1 := List.map_eq_nil_iff.mp hT
      have h2 := List.filter_eq_nil_iff.mp h1 c hc
      simpa using h2
    rw [hfl, List.append_nil] at hcl
    exact fin rs a L0 vl _ _ H6 (b1.ex (by walk_at "ex")) (o5.mono e6) (dp_ex (show Ex H' H6 by walk_at "ex") dl) hcl
  have hT : T ≠ [] := of_decide_eq_false hT
  obtain ⟨t, ht, htl⟩ := min_mem hT
  obtain ⟨c0, hc0, hk0⟩ := List.mem_map.mp ht
  obtain ⟨hc1, hc2⟩ := List.mem_filter.mp hc0
  have hc2 : c0 % a ≠ 0 := by have := of_decide_eq_true hc2; omega
  have hmin : ∀ c ∈ a :: L0, c % a ≠ 0 → t ≤ c / a := fun c hc hn => htl _ (List.mem_map.mpr ⟨c, List.mem_filter.mpr ⟨hc, by simp; omega⟩, rfl⟩)
  have ht1 : 0 < t := by rw [← hk0]; exact Nat.div_pos (hd.min c0 hc1) hd.pos
  have ht2 : t < 2 ^ 30 := by
    rw [← hk0]
    exact Nat.lt_of_le_of_lt (Nat.div_le_self _ _) (hpos c0 hc1).2
  have emin : ∀ {σ : L2.St} {H8 : Hp}, Ex H5 H8 → σ[5]? = some (some v5) → EvD K (tCB (rMin K) (tCons (tVar 5) tNil)) σ H8 (.int (t : Nat)) := fun {σ H8} e8 hσ =>
    evd_cb (ds := [.list ((T.map (fun (n : Nat) => (n : Int))).map .int)]) (evda_cons (evd_is (evd_var hσ d5 e8) (by rw [ints_nat])) evda_nil) (rc_min (List.mem_map.mpr ⟨t, ht, rfl⟩) fun y hy => by
      obtain ⟨n, hn, rfl⟩ := List.mem_map.mp hy
      have := htl n hn
      omega)
  have hlen2 : (rs ++ (clRow (a :: L0)).1).length ≤ 58 := by rw [hcl] at hfl; exact hfl
  have o6 := o5.mono e6
  refine q_app K o6 rfl (noR rs) (d := runD (a, t)) rfl (by rw [List.length_map]; rw [List.length_append] at hlen2; omega) (evd_tup (ds := [.int (a : Nat), .int (t : Nat)]) (evda_cons (by walk_at "ev") (evda_cons (emin e6 rfl) evda_nil)) (by walk_at "ln")) fun H7 b7 o7 => ?_
  have dl6 : Dp K H6 vl (.list ((a :: L0).map intN)) := dp_ex (show Ex H' H6 by walk_at "ex") dl
  have df : ∀ (l : List Nat) (xs : List V), l ≠ [] → DpAll K H6 xs (l.map intN) → DpAll K H6 xs (rs.map runD) → False := fun l xs hl h1 h2 => by
    cases l with
    | nil => exact hl rfl
    | cons n l =>
      cases rs with
      | nil => cases h2; cases h1
      | cons r rs => cases h1 with | cons q1 _ => cases h2 with | cons q2 _ => cases q1; cases q2
  have dl7 : Dp K H7 vl (.list ((a :: L0).map intN)) := dpl_own o6 b7 (noI _) (fun xs => df _ xs (List.cons_ne_nil _ _)) dl6
  have d57 : Dp K H7 v5 (.list (T.map intN)) := dpl_own o6 b7 (noI _) (fun xs => df _ xs hT) (dp_ex e6 d5)
  have emin7 : ∀ {σ : L2.St} {H8 : Hp}, Ex H7 H8 → σ[5]? = some (some v5) → EvD K (tCB (rMin K) (tCons (tVar 5) tNil)) σ H8 (.int (t : Nat)) := fun {σ H8} e8 hσ =>
    evd_cb (ds := [.list ((T.map (fun (n : Nat) => (n : Int))).map .int)]) (evda_cons (evd_is (evd_var hσ d57 e8) (by rw [ints_nat])) evda_nil) (rc_min (List.mem_map.mpr ⟨t, ht, rfl⟩) fun y hy => by
      obtain ⟨n, hn, rfl⟩ := List.mem_map.mp hy
      have := htl n hn
      omega)
  let B : List Nat := ((a :: L0).filter fun c => decide (a * t < c)).map fun c => c - a * t
  have cm : CMul (a : Int) (t : Int) := by left; constructor <;> omega
  have hBl : B.length ≤ L0.length := by
    show (List.map _ _).length ≤ _
    rw [List.length_map, List.filter_cons_of_neg (by have := Nat.le_mul_of_pos_right a ht1; simp; omega)]
    exact List.length_filter_le _ _
  refine s_sortL K (ns := a :: B) (by rw [List.length_cons] at hlen ⊢; omega) (evd_is (evd_op (d := .list [.int (a : Nat)]) (e := .list (B.map intN)) (by walk_at "ev") (evd_is (evd_lcI (b := true) intN (a :: L0) (fun c => decide (a * t < c)) (fun c => intN (c - a * t)) (show EvD K _ _ _ (.list ((a :: L0).map intN)) from by walk_at "ev") (by omega) (fun _ _ _ => rfl) fun c hc => ?_) (by rw [List.map_map]; rfl)) (rd_plusL (by rw [List.length_map]; show 1 + B.length ≤ 1000000; rw [List.length_cons] at hlen; omega))) (by rfl)) fun L' vl' H9 hs' e9 dl9 => ?_
  · refine lct_name (fun v => rfl) fun v H1 e dv => ?_
    have dv : Dp K H1 v (.int (c : Nat)) := dv
    cases dp_int dv
    refine ⟨et_is (a := decide ((a : Int) * (t : Int) < (c : Int))) (et_test (evd_op (by walk_at "ev") (evd_op (by walk_at "ev") (emin7 e rfl) (rd_mul cm)) rd_gt)) (decide_eq_decide.mpr (by rw [← Int.natCast_mul]; omega)), fun hlt => ?_⟩
    have hlt := of_decide_eq_true hlt
    exact evd_is (d := .int ((c : Int) - (a : Int) * (t : Int))) (evd_op (by walk_at "ev") (evd_op (by walk_at "ev") (emin7 e rfl) (rd_mul cm)) rd_sub) (by
      show PyData.int _ = PyData.int ((c - a * t : Nat) : Int)
      congr 1; rw [← Int.natCast_mul]; omega)
  have beh : BehL (a :: L0) a t L' := fun c => by
    rw [hs'.2.mem_iff, List.mem_cons]
    constructor
    · rintro (h | h)
      · exact .inl h
      · obtain ⟨d, hd, rfl⟩ := List.mem_map.mp h
        obtain ⟨h1, h2⟩ := List.mem_filter.mp hd
        exact .inr ⟨d, h1, of_decide_eq_true h2, rfl⟩
    · rintro (h | ⟨d, h1, h2, rfl⟩)
      · exact .inl h
      · exact .inr (List.mem_map.mpr ⟨d, List.mem_filter.mpr ⟨h1, decide_eq_true h2⟩, rfl⟩)
  obtain ⟨⟨c1, hc1', hlt⟩, hall⟩ := behL_head hd hc1 hc2 hk0 hmin beh
  have hrun := cl_run hd hc1 hc2 hk0 hmin beh
  obtain ⟨x, L2, rfl⟩ : ∃ x L2, L' = x :: L2 := by
    cases L' with
    | nil => cases hc1'
    | cons x L2 => exact ⟨x, L2, rfl⟩
  refine ⟨x, ?_, x, L2, rs ++ [(a, t)], vl', _, _, rfl, rfl, ?_, ?_, dl9, hs'.1, fun c hc => ?_, ?_, ?_⟩
  · rcases List.mem_cons.mp hc1' with h | h
    · omega
    · have := (List.pairwise_cons.mp hs'.1).1 c1 h
      omega
  · exact b1.trans ((Bts.of (show Ex H' H6 by walk_at "ex")).trans (b7.ex e9))
  · have := o7.mono e9
    rw [List.map_append]
    exact this
  · obtain ⟨h1, d, hd', h2⟩ := hall c hc
    have := (hpos d hd').2
    omega
  · have := hs'.2.length_eq
    rw [this, List.length_cons]
    rw [List.length_cons] at hlen
    omega
  · rw [hcl, hrun, List.append_assoc]
    rfl
end Bw
end
section
set_option Elab.async false
set_option linter.all false
set_option maxRecDepth 100000
set_option maxHeartbeats 8000000
namespace Bw
open PySem PySem.Spec PyProof.Rows L2 Bfb
local macro_rules | `(tactic| walk_at "ex") => `(tactic| first
  | assumption
  | exact Ex.refl _
  | (refine Ex.trans ?_ (by assumption); walk_at "ex"))
local macro_rules | `(tactic| walk_at "om") => `(tactic| first | omega | assumption | (left; constructor <;> omega) | (right; constructor <;> omega) | decide)
local macro_rules | `(tactic| walk_at "ln") => `(tactic| first | decide | (simp only [List.length_cons, List.length_nil, List.length_append, List.length_map]; omega))
local macro_rules | `(tactic| walk_at "rd") => `(tactic| first
  | with_reducible exact rd_plus
  | with_reducible exact rd_sub
  | with_reducible exact rd_lt
  | with_reducible exact rd_le
  | with_reducible exact rd_gt
  | with_reducible exact rd_ge
  | with_reducible exact rd_eqI
  | with_reducible exact rd_neI
  | ((with_reducible apply rd_eqD); rfl; rfl)
  | ((with_reducible apply rd_neD); rfl; rfl)
  | ((with_reducible apply rd_mul); walk_at "om")
  | ((with_reducible apply rd_div); walk_at "om"; walk_at "om")
  | ((with_reducible apply rd_mod); walk_at "om")
  | ((with_reducible apply rd_divW); walk_at "om"; walk_at "om")
  | ((with_reducible apply rd_ixT); rfl)
  | ((with_reducible apply rd_ixL); rfl)
  | with_reducible exact rd_isNi
  | with_reducible exact rd_isNn
  | with_reducible exact rd_isNt
  | with_reducible exact rd_notNn)
local macro_rules | `(tactic| walk_at "ev") => `(tactic| first
  | with_reducible exact evd_int
  | ((with_reducible apply evd_varI); rfl)
  | ((with_reducible apply evd_varB); rfl)
  | ((with_reducible apply evd_var); rfl; assumption; walk_at "ex")
  | with_reducible exact evd_bl
  | with_reducible exact evd_non
  | with_reducible exact evd_str
  | ((with_reducible apply evd_op); walk_at "ev"; walk_at "ev"; walk_at "rd")
  | ((with_reducible apply evd_tup); walk_at "ea"; walk_at "ln")
  | ((with_reducible apply evd_lst); walk_at "ea"; walk_at "ln")
  | ((with_reducible apply evd_isInt); walk_at "ev")
  | ((with_reducible apply evd_isBool); walk_at "ev")
  | ((with_reducible apply evd_isTuple); walk_at "ev")
  | ((with_reducible apply evd_cb); walk_at "ea"; walk_at "rc")
  | with_reducible exact evd_neg1
  | ((with_reducible apply evd_notV); walk_at "ev")
  | ((with_reducible apply evd_call); walk_at "ea"; assumption))
local macro_rules | `(tactic| walk_at "ea") => `(tactic| first
  | with_reducible exact evda_nil
  | ((with_reducible apply evda_cons); walk_at "ev"; walk_at "ea")
  | ((with_reducible apply evda_starT); walk_at "ev"; walk_at "ea")
  | ((with_reducible apply evda_starL); walk_at "ev"; walk_at "ea"))
local macro_rules | `(tactic| walk_at "rc") => `(tactic| first
  | with_reducible exact rc_len
  | with_reducible exact rc_lenT
  | with_reducible exact rc_tupL
  | with_reducible exact rc_tupT
  | with_reducible exact rc_listL
  | with_reducible exact rc_listT
  | with_reducible exact rc_min2
  | with_reducible exact rc_max2
  | with_reducible exact rc_int1
  | with_reducible exact rc_abs
  | with_reducible exact rc_all
  | with_reducible exact rc_sum)
local macro_rules | `(tactic| walk_at "et") => `(tactic| first
  | ((with_reducible apply et_test (K := ‹PySem.W.Frag›)); walk_at "ev")
  | ((with_reducible apply et_B (K := ‹PySem.W.Frag›)); walk_at "ev")
  | ((with_reducible apply et_not); walk_at "et"))

variable {P : Program} {w : World} {K : PySem.W.Frag} {mg : Str → Option Value} {base : Heap}
theorem own_cast {H : Hp} {p : Addr} {ds es : List PyData} (o : Own K H p ds) (e : ds = es) : Own K H p es := e ▸ o
def R_lin (ds : List PyData) (d : PyData) : Prop := ∃ (r : Runs) (e b : Nat), (runsL r 0).length + (tailL (far r) e b).length ≤ 95000 ∧ ds = [rowD (r, e), .int b] ∧ d = .list ((inL r e b).map intN)
theorem d_law_in (F : Fd K mg "_law_in" s_law_in) (B : Nm mg) : Df P w K mg base "_law_in" 1 ["_law_falling", "_law_bound"] (spP K R_lin) := by
  refine d_pure F sc_law_in (fun _ _ _ _ _ _ us hl => match us, hl with | [_, _], _ => rfl) (by rintro _ _ ⟨r, e, n, hlen, rfl, rfl⟩; rfl) fun f cdv A outer s H vs ds d Q E hr hds hR k => ?_
  have hu64 := hr.units
  have hu65 := room65 hr
  have hu1 := room1 hr
  obtain ⟨r, e, n, hlen, rfl, rfl⟩ := hR
  obtain ⟨v0, v1, rfl, h0, h1⟩ := dpa2 hds
  cases dp_int h1
  refine ⟨_, (pss_cons (ps_asg (pv 0) (pg_tupK (K := K) (n := 2) rfl rfl (pgs_cons (pg_name (i := 2) sc_law_in.nd rfl (.inl rfl)) (pgs_cons (pg_name (i := 3) sc_law_in.nd rfl (.inl rfl)) pgs_nil))))
      (pss_cons (ps_par (i := 4) (j := 5) (by rfl) sc_law_in.nd rfl rfl (by decide) rfl rfl (pa_cons (pe_lst pa_nil) (pa_cons pe_int pa_nil)) (by rfl))
      (pss_cons (ps_for PassesOwn.never rfl (pi_seqK (K := K) rfl (pv 2)) (pg_tupK (K := K) (n := 2) rfl rfl (pgs_cons (pg_name (i := 6) sc_law_in.nd rfl (.inl rfl)) (pgs_cons (pg_name (i := 7) sc_law_in.nd rfl (.inl rfl)) pgs_nil))) (pss_one (ps_for PassesOwn.never rfl (pi_range1 (by rfl) B.range (pa_cons (pv 7) pa_nil)) (pg_name (i := 8) sc_law_in.nd rfl (.inl rfl)) (pss_cons (ps_expr (pe_bm PySem.F.plainAttrs_list PySem.F.slot_list_append PySem.F.type_list_append mt_append (pv 4) (pa_cons (pv 5) pa_nil)))
      (pss_one (ps_aug (i := 5) sc_law_in.nd rfl (.inl rfl) (pv 6) ip_add))))))
      (pss_cons (ps_while PassesOwn.never (pt_cmpR op_lt (pv 5) (pv 1) (nomark _)) (pss_cons (ps_expr (pe_bm PySem.F.plainAttrs_list PySem.F.slot_list_append PySem.F.type_list_append mt_append (pv 4) (pa_cons (pv 5) pa_nil)))
      (pss_cons (ps_if (pt_cmpR (op_eqK (K := K) hu64 rfl) (pv 3) pe_int (nomark _)) (pss_one ps_break) pss_nil)
      (pss_one (ps_aug (i := 5) sc_law_in.nd rfl (.inl rfl) (pv 3) ip_add)))))
      (pss_one (ps_ret (pe_lc (own := [("_law_count", 9)]) rfl sc_law_in.nd (pi_seqK (K := K) rfl (pv 4)) (blkOk_by (own := [("_law_count", 9)]) (N := N_law_in) (sc := defScope s_law_in) (by decide +kernel)) (fun _ _ _ _ _ => (pg_name (i := 9) sc_law_in.nd rfl (.inl rfl))) (fun _ _ _ _ _ => pts_one (pt_cmpR op_lt (pv 9) (pv 1) (nomark _))) (fun _ _ _ _ _ => (pv 9))))))))), ?_⟩
  try dsimp only [cxOf, Cx.nox, Cx.wish]
  have h0 : Dp K H v0 (.tuple [.tuple (r.map runD), .int (e : Nat)]) := h0
  rw [runsL_len] at hlen
  refine q_asg K (d := .tuple [.tuple (r.map runD), .int (e : Nat)]) (by walk_at "ev") fun v H1 e1 dv => ?_
  refine g_two dv fun v2 v3 d2 d3 => ?_
  cases dp_int d3
  refine q_parND K (d := .int 0) (by walk_at "ev") fun p v5 H2 e2 np op d5 => ?_
  cases dp_int d5
  have d2' := dp_ex e2 d2
  have eH2 : Ex H H2 := by walk_at "ex"
  have npH : H p = none := fresh_ex e1 np
  have nr : noL (.tuple (r.map runD)) = true := noR r
  refine q_forV K (b := false) (ds := r.map runD) rfl d2' ⟨fun i σ' H' => ∃ (x6 x7 x8 : Option V), σ' = [some v0, some (.int (n : Nat)), some v2, some (.int (e : Nat)), some (.ref p), some (.int (far (r.take i) : Nat)), x6, x7, x8, none] ∧ Bts [p] H2 H' ∧
      Own K H' p ((runsL (r.take i) 0).map intN), ⟨none, none, none, rfl, Bts.refl, op⟩, fun i σ' H' ⟨_, _, _, _, b, o⟩ => dp_bts b (lsts1 op) nr d2', ?_, ?_⟩
  · rintro i d x σ' H' hi dx ⟨x6, x7, x8, rfl, b, o⟩
    obtain ⟨⟨s, t⟩, hp, rfl⟩ : ∃ p, r[i]? = some p ∧ runD p = d := by
      rw [List.getElem?_map] at hi
      cases hp : r[i]? with
      | none => rw [hp] at hi; cases hi
      | some p => rw [hp] at hi; exact ⟨p, rfl, Option.some.inj hi⟩
    have hst : nsteps (r.take i) + t ≤ nsteps r := by
      have h1 := take_nsteps r (i + 1)
      rw [take_snoc hp] at h1
      have h2 := runsL_len (r.take i ++ [(s, t)]) 0
      rw [runsL_snoc, List.length_append, runsL_len, List.length_map, List.length_range] at h2
      omega
    have dx : Dp K H' x (.tuple [.int (s : Int), .int (t : Int)]) := dx
    refine g_two dx fun y z dy dz => ?_
    cases dp_int dy
    cases dp_int dz
    refine s_forR K (n := t) (by walk_at "ea") (by omega) fun H3 e3 => ⟨fun j σ' H' => ∃ x8, σ' = [some v0, some (.int (n : Nat)), some v2, some (.int (e : Nat)), some (.ref p), some (.int (far (r.take i) + j * s : Nat)), some (.int (s : Nat)), some (.int (t : Nat)), x8, none] ∧ Bts [p] H2 H' ∧
      Own K H' p ((runsL (r.take i) 0 ++ (List.range j).map fun c => far (r.take i) + c * s).map intN), ⟨x8, ?_, b.ex e3, ?_⟩, ?_, ?_⟩
    · rw [Nat.zero_mul, Nat.add_zero]
      rfl
    · exact own_cast (o.mono e3) (by simp)
    · rintro j σ' H' hj ⟨x8, rfl, b, o⟩
      refine q_app K o rfl (noI _) (d := intN (far (r.take i) + j * s)) rfl (by rw [List.length_map, List.length_append, List.length_map, List.length_range, runsL_len]; omega) (show EvD K _ _ _ (.int (far (r.take i) + j * s : Nat)) from by walk_at "ev") fun H4 b4 o4 => ?_
      refine s_aug K rfl (show EvD K _ _ _ (.int (s : Nat)) from by walk_at "ev") fun H5 e5 => ?_
      refine ⟨some (.int (j : Nat)), ?_, b.trans (b4.ex e5), own_cast (o4.mono e5) (by rw [List.range_succ, List.map_append, List.map_append, List.map_append]; simp [intN])⟩
      have : ((far (r.take i) + j * s : Nat) : Int) + (s : Int) = ((far (r.take i) + (j + 1) * s : Nat) : Int) := by rw [Nat.succ_mul]; omega
      rw [this]
      rfl
    · rintro σ' H' ⟨x8, rfl, b, o⟩
      refine ⟨some (.int (s : Nat)), some (.int (t : Nat)), x8, ?_, b, own_cast o (by rw [take_snoc hp, runsL_snoc, Nat.zero_add])⟩
      rw [take_snoc hp, far_snoc, Nat.mul_comm s t]
  · rintro σ' H' ⟨x6, x7, x8, rfl, b, o⟩
    rw [List.length_map, List.take_length] at *
    have fin : ∀ (L : List Nat) (x5 : Option V) (H3 : Hp), Bts [p] H2 H3 → L.length ≤ 95000 → Own K H3 p (L.map intN) → inL r e n = L.filter (fun x => decide (x < n)) →
        tRet (tLc (iSeq K (tVar 4)) (gName 9) (tTest (tOp (rI0 fun i j => V.bl (decide (i < j))) (tVar 9) (tVar 1))) (tVar 9) (List.map (fun x => x.snd) [(Str.ofString "_law_count", 9)]))
          { nx := fun x H' => Q V.non H', rt := Q } [some v0, some (.int (n : Nat)), some v2, some (.int (e : Nat)), some (.ref p), x5, x6, x7, x8, none] H3 := fun L x5 H3 b3 hL o3 eL => by
      have dp := o3.dp
      refine s_ret K (d := .list ((inL r e n).map intN)) (evd_is (evd_lcI (b := true) intN L (fun x => decide (x < n)) intN (show EvD K _ _ _ (.list (L.map intN)) from by walk_at "ev") (by omega) (fun _ _ _ => rfl) fun c hc => ?_) (by rw [eL])) fun v H4 e4 dv => k v H4 ((ex_bts eH2 b3 npH).trans e4) dv
      refine lct_name (fun v => rfl) fun v H1 e dv => ?_
      have dv : Dp K H1 v (.int (c : Nat)) := dv
      cases dp_int dv
      exact ⟨et_is (a := decide ((c : Int) < (n : Int))) (by walk_at "et") (by simp), fun _ => show EvD K _ _ _ (.int (c : Nat)) from by walk_at "ev"⟩
    have hR := runsL_len r 0
    by_cases he : e = 0
    · subst he
      refine q_while (fun m σ' H' => σ' = [some v0, some (.int (n : Nat)), some v2, some (.int (0 : Nat)), some (.ref p), some (.int (far r : Nat)), x6, x7, x8, none] ∧ Bts [p] H2 H' ∧ Own K H' p ((runsL r 0).map intN)) 0 ⟨rfl, b, o⟩ ?_
      rintro m σ' H' ⟨rfl, b, o⟩
      refine ⟨decide ((far r : Int) < (n : Int)), by walk_at "et", fun h H3 e3 => ?_, fun h H3 e3 => ?_⟩
      · have h : far r < n := by have := of_decide_eq_true h; omega
        refine q_app K (o.mono e3) rfl (noI _) (d := intN (far r)) rfl (by rw [List.length_map, hR]; omega) (show EvD K _ _ _ (.int (far r : Nat)) from by walk_at "ev") fun H4 b4 o4 => ?_
        refine q_when (b := true) (et_is (a := decide (((0 : Nat) : Int) = 0)) (by walk_at "et") rfl) (fun _ H5 e5 => ?_) fun z => nomatch z
        refine fin (runsL r 0 ++ [far r]) _ H5 ((b.ex e3).trans (b4.ex e5)) (by rw [List.length_append, hR]; simp [tailL, h] at hlen ⊢; omega) (own_cast (o4.mono e5) (by rw [List.map_append]; rfl)) ?_
        simp [inL, tailL, h]
      · have h : ¬ far r < n := by have := of_decide_eq_false h; omega
        refine fin (runsL r 0) _ H3 (b.ex e3) (by rw [hR]; omega) (o.mono e3) ?_
        simp [inL, tailL, h]
    · have he : 0 < e := Nat.pos_of_ne_zero he
      have tE : tailL (far r) e n = (List.range ((n - far r + (e - 1)) / e)).map fun i => far r + i * e := by unfold tailL; rw [if_neg (by omega)]
      rw [tE, List.length_map, List.length_range] at hlen
      have lt := fun c => @tail_lt (far r) e n c he
      generalize (n - far r + (e - 1)) / e = N at *
      refine q_while (fun m σ' H' => ∃ c, m = N - c ∧ c ≤ N ∧ σ' = [some v0, some (.int (n : Nat)), some v2, some (.int (e : Nat)), some (.ref p), some (.int (far r + c * e : Nat)), x6, x7, x8, none] ∧ Bts [p] H2 H' ∧ Own K H' p ((runsL r 0 ++ (List.range c).map fun i => far r + i * e).map intN)) N ⟨0, rfl, Nat.zero_le _, by rw [Nat.zero_mul]; rfl, b, own_cast o (by simp)⟩ ?_
      rintro m σ' H' ⟨c, rfl, hc, rfl, b, o⟩
      refine ⟨decide (((far r + c * e : Nat) : Int) < (n : Int)), by walk_at "et", fun h H3 e3 => ?_, fun h H3 e3 => ?_⟩
      · have h : c < N := (lt c).mpr (by have := of_decide_eq_true h; omega)
        refine q_app K (o.mono e3) rfl (noI _) (d := intN (far r + c * e)) rfl (by rw [List.length_map, List.length_append, List.length_map, List.length_range, hR]; omega) (show EvD K _ _ _ (.int (far r + c * e : Nat)) from by walk_at "ev") fun H4 b4 o4 => ?_
        refine q_no (et_is (a := decide ((e : Int) = 0)) (by walk_at "et") (decide_eq_false (by omega))) fun H5 e5 => ?_
        refine s_aug K rfl (show EvD K _ _ _ (.int (e : Nat)) from by walk_at "ev") fun H6 e6 => ?_
        refine ⟨N - (c + 1), by omega, c + 1, rfl, h, ?_, (b.ex e3).trans (b4.ex (e5.trans e6)), own_cast (o4.mono (e5.trans e6)) (by rw [List.range_succ, List.map_append, List.map_append, List.map_append]; simp [intN])⟩
        have : ((far r + c * e : Nat) : Int) + (e : Int) = ((far r + (c + 1) * e : Nat) : Int) := by rw [Nat.succ_mul]; omega
        rw [this]
        rfl
      · have h : c = N := by
          have := of_decide_eq_false h
          have := lt c
          omega
        subst h
        refine fin _ _ H3 (b.ex e3) (by rw [List.length_append, List.length_map, List.length_range, hR]; omega) (o.mono e3) ?_
        unfold inL
        rw [tE]
end Bw
end
section
set_option Elab.async false
set_option linter.all false
set_option maxRecDepth 100000
set_option maxHeartbeats 8000000
namespace Bw
open PySem PySem.Spec PyProof.Rows L2 Bfb
local macro_rules | `(tactic| walk_at "ex") => `(tactic| first
  | assumption
  | exact Ex.refl _
  | (refine Ex.trans ?_ (by assumption); walk_at "ex"))
local macro_rules | `(tactic| walk_at "om") => `(tactic| first | omega | assumption | (left; constructor <;> omega) | (right; constructor <;> omega) | decide)
local macro_rules | `(tactic| walk_at "ln") => `(tactic| first | decide | (simp only [List.length_cons, List.length_nil, List.length_append, List.length_map]; omega))
local macro_rules | `(tactic| walk_at "rd") => `(tactic| first
  | with_reducible exact rd_plus
  | with_reducible exact rd_sub
  | with_reducible exact rd_lt
  | with_reducible exact rd_le
  | with_reducible exact rd_gt
  | with_reducible exact rd_ge
  | with_reducible exact rd_eqI
  | with_reducible exact rd_neI
  | ((with_reducible apply rd_eqD); rfl; rfl)
  | ((with_reducible apply rd_neD); rfl; rfl)
  | ((with_reducible apply rd_mul); walk_at "om")
  | ((with_reducible apply rd_div); walk_at "om"; walk_at "om")
  | ((with_reducible apply rd_mod); walk_at "om")
  | ((with_reducible apply rd_divW); walk_at "om"; walk_at "om")
  | ((with_reducible apply rd_ixT); rfl)
  | ((with_reducible apply rd_ixL); rfl)
  | with_reducible exact rd_isNi
  | with_reducible exact rd_isNn
  | with_reducible exact rd_isNt
  | with_reducible exact rd_notNn)
local macro_rules | `(tactic| walk_at "ev") => `(tactic| first
  | with_reducible exact evd_int
  | ((with_reducible apply evd_varI); rfl)
  | ((with_reducible apply evd_varB); rfl)
  | ((with_reducible apply evd_var); rfl; assumption; walk_at "ex")
  | with_reducible exact evd_bl
  | with_reducible exact evd_non
  | with_reducible exact evd_str
  | ((with_reducible apply evd_op); walk_at "ev"; walk_at "ev"; walk_at "rd")
  | ((with_reducible apply evd_tup); walk_at "ea"; walk_at "ln")
  | ((with_reducible apply evd_lst); walk_at "ea"; walk_at "ln")
  | ((with_reducible apply evd_isInt); walk_at "ev")
  | ((with_reducible apply evd_isBool); walk_at "ev")
  | ((with_reducible apply evd_isTuple); walk_at "ev")
  | ((with_reducible apply evd_cb); walk_at "ea"; walk_at "rc")
  | with_reducible exact evd_neg1
  | ((with_reducible apply evd_notV); walk_at "ev")
  | ((with_reducible apply evd_call); walk_at "ea"; assumption))
local macro_rules | `(tactic| walk_at "ea") => `(tactic| first
  | with_reducible exact evda_nil
  | ((with_reducible apply evda_cons); walk_at "ev"; walk_at "ea")
  | ((with_reducible apply evda_starT); walk_at "ev"; walk_at "ea")
  | ((with_reducible apply evda_starL); walk_at "ev"; walk_at "ea"))
local macro_rules | `(tactic| walk_at "rc") => `(tactic| first
  | with_reducible exact rc_len
  | with_reducible exact rc_lenT
  | with_reducible exact rc_tupL
  | with_reducible exact rc_tupT
  | with_reducible exact rc_listL
  | with_reducible exact rc_listT
  | with_reducible exact rc_min2
  | with_reducible exact rc_max2
  | with_reducible exact rc_int1
  | with_reducible exact rc_abs
  | with_reducible exact rc_all
  | with_reducible exact rc_sum)
local macro_rules | `(tactic| walk_at "et") => `(tactic| first
  | ((with_reducible apply et_test (K := ‹PySem.W.Frag›)); walk_at "ev")
  | ((with_reducible apply et_B (K := ‹PySem.W.Frag›)); walk_at "ev")
  | ((with_reducible apply et_not); walk_at "et"))

variable {P : Program} {w : World} {K : PySem.W.Frag} {mg : Str → Option Value} {base : Heap}
theorem sum_far : ∀ r : Runs, (r.map fun p => ((p.1 * p.2 : Nat) : Int)).sum = (far r : Nat)
  | [] => rfl
  | (s, t) :: r => by
    rw [List.map_cons, List.sum_cons, sum_far r]
    show ((s * t : Nat) : Int) + _ = ((s * t + far r : Nat) : Int)
    omega
def R_lboth (ds : List PyData) (d : PyData) : Prop := ∃ X Y : Bfb.Row, Small X ∧ Small Y ∧ Nat.lcm X.2 Y.2 ≤ 576 ∧ ds = [rowD X, rowD Y] ∧ d = rowD (bothRow X Y)
theorem both_zero {X Y : Bfb.Row} (vx : VR X) (vy : VR Y) (hz : X.2 = 0 ∨ Y.2 = 0) : bothRow X Y = ([], 0) := by
  refine (bothRow_eq (M := ([], 0)) vx vy ⟨trivial, fun n => ?_⟩).symm
  show InR ([], 0) n ↔ _
  rw [in0]
  constructor
  · rintro rfl
    exact ⟨(valid_closed vx).zero, (valid_closed vy).zero⟩
  · rintro ⟨a, b⟩
    rcases hz with h | h
    · rw [flat0 vx h] at a
      exact (in0 n).mp a
    · rw [flat0 vy h] at b
      exact (in0 n).mp b
theorem d_law_both (F : Fd K mg "_law_both" s_law_both) (B : Nm mg) (D_law_runs : Df P w K mg base "_law_runs" 1 ["_law_steps"] (spP K R_lruns)) (D_law_divisor : Df P w K mg base "_law_divisor" 1 ["_law_one", "_law_other"] (spP K R_ldivisor)) (D_law_in : Df P w K mg base "_law_in" 1 ["_law_falling", "_law_bound"] (spP K R_lin)) (D_law_has : Df P w K mg base "_law_has" 1 ["_law_falling", "_law_count"] (spP K R_lhas)) : Df P w K mg base "_law_both" 2 ["_law_one", "_law_other"] (spP K R_lboth) := by
  refine d_pure F sc_law_both (fun _ _ _ _ _ _ us hl => match us, hl with | [_, _], _ => rfl) (by rintro _ _ ⟨X, Y, hX, hY, hL, rfl, rfl⟩; rfl) fun f cdv A outer s H vs ds d Q E hr hds hR k => ?_
  have hu64 := hr.units
  have hu65 := room65 hr
  have hu1 := room1 hr
  obtain ⟨X, Y, hX, hY, hL, rfl, rfl⟩ := hR
  obtain ⟨v0, v1, rfl, h0, h1⟩ := dpa2 hds
  refine ⟨_, (pss_cons (ps_if (PW.pt (pw_or (pt_cmpR (op_eqK (K := K) hu64 rfl) (pe_ix (ix_K (K := K) rfl) (pv 0) pe_int (fun _ _ => rfl)) pe_int (nomark _)) (pw_or1 (pt_cmpR (op_eqK (K := K) hu64 rfl) (pe_ix (ix_K (K := K) rfl) (pv 1) pe_int (fun _ _ => rfl)) pe_int (nomark _))))) (pss_one (ps_ret (pe_tup (pa_cons (pe_tup pa_nil) (pa_cons pe_int pa_nil))))) pss_nil)
      (pss_cons (ps_set (i := 2) sc_law_both.nd rfl (.inr rfl) (pe_op op_mul (pe_op op_fdivN (pe_ix (ix_K (K := K) rfl) (pv 0) pe_int (fun _ _ => rfl)) (pe_df D_law_divisor (hr.mono (by decide)) (by rfl) (pa_cons (pe_ix (ix_K (K := K) rfl) (pv 0) pe_int (fun _ _ => rfl)) (pa_cons (pe_ix (ix_K (K := K) rfl) (pv 1) pe_int (fun _ _ => rfl)) pa_nil)))) (pe_ix (ix_K (K := K) rfl) (pv 1) pe_int (fun _ _ => rfl))))
      (pss_cons (ps_set (i := 5) sc_law_both.nd rfl (.inl rfl) (pe_callB (cr_sum rfl) (by rfl) B.sum (by decide +kernel) (pa_cons (pe_lc (own := [("_law_step", 3), ("_law_times", 4)]) rfl sc_law_both.nd (pi_seqK (K := K) rfl (pe_op (op_plusK (K := K) rfl) (pe_ix (ix_K (K := K) rfl) (pv 0) pe_int (fun _ _ => rfl)) (pe_ix (ix_K (K := K) rfl) (pv 1) pe_int (fun _ _ => rfl)))) (blkOk_by (own := [("_law_step", 3), ("_law_times", 4)]) (N := N_law_both) (sc := defScope s_law_both) (by decide +kernel)) (fun _ _ _ _ _ => (pg_tupK (K := K) (n := 2) rfl rfl (pgs_cons (pg_name (i := 3) sc_law_both.nd rfl (.inl rfl)) (pgs_cons (pg_name (i := 4) sc_law_both.nd rfl (.inl rfl)) pgs_nil)))) (fun _ _ _ _ _ => pts_nil) (fun _ _ _ _ _ => (pe_op op_mul (pv 3) (pv 4)))) pa_nil)))
      (pss_cons (ps_set (i := 6) sc_law_both.nd rfl (.inl rfl) (pe_op (op_plusK (K := K) rfl) (pe_op op_mul (pe_op (op_plusK (K := K) rfl) (pe_op op_fdivN (pv 5) (pv 2)) pe_int) (pv 2)) pe_int))
      (pss_cons (ps_asg (pe_ifExp (pt_cmpR op_gt (pe_ix (ix_K (K := K) rfl) (pv 0) pe_int (fun _ _ => rfl)) (pe_ix (ix_K (K := K) rfl) (pv 1) pe_int (fun _ _ => rfl)) (nomark _)) (pe_tup (pa_cons (pv 0) (pa_cons (pv 1) pa_nil))) (pe_tup (pa_cons (pv 1) (pa_cons (pv 0) pa_nil)))) (pg_tupK (K := K) (n := 2) rfl rfl (pgs_cons (pg_name (i := 7) sc_law_both.nd rfl (.inl rfl)) (pgs_cons (pg_name (i := 8) sc_law_both.nd rfl (.inr rfl)) pgs_nil))))
      (pss_cons (ps_set (i := 10) sc_law_both.nd rfl (.inr rfl) (pe_lc (own := [("_law_count", 9)]) rfl sc_law_both.nd (pi_seqK (K := K) rfl (pe_df D_law_in (hr.mono (by decide)) (by rfl) (pa_cons (pv 7) (pa_cons (pv 6) pa_nil)))) (blkOk_by (own := [("_law_count", 9)]) (N := N_law_both) (sc := defScope s_law_both) (by decide +kernel)) (fun _ _ _ _ _ => (pg_name (i := 9) sc_law_both.nd rfl (.inl rfl))) (fun _ _ _ _ _ => pts_one (pt_val (pe_df D_law_has (hr.mono (by decide)) (by rfl) (pa_cons (pv 8) (pa_cons (pv 9) pa_nil))))) (fun _ _ _ _ _ => (pv 9))))
      (pss_cons (ps_setLc (i := 12) (own := [("_law_at_here", 11)]) rfl sc_law_both.nd rfl rfl (sw_true rfl rfl rfl (by decide +kernel)) (pi_range1 (by rfl) B.range (pa_cons (pe_op op_sub (pe_callB (call_lenK (K := K) rfl) (by rfl) B.len PySem.boot_len (pa_cons (pv 10) pa_nil)) pe_int) pa_nil)) (blkOk_by (own := [("_law_at_here", 11)]) (N := N_law_both) (sc := defScope s_law_both) (by decide +kernel)) (fun _ _ _ _ _ => (pg_name (i := 11) sc_law_both.nd rfl (.inl rfl))) (fun _ _ _ _ _ => pts_nil) (fun _ _ _ _ _ => (pe_op op_sub (pe_ix (ix_K (K := K) rfl) (pv 10) (pe_op (op_plusK (K := K) rfl) (pv 11) pe_int) (fun _ _ => rfl)) (pe_ix (ix_K (K := K) rfl) (pv 10) (pv 11) (fun _ _ => rfl)))))
      (pss_one (ps_ret (pe_tup (pa_cons (pe_df D_law_runs (hr.mono (by decide)) (by rfl) (pa_cons (pe_lc (own := [("_law_step", 3)]) rfl sc_law_both.nd (pi_seqK (K := K) rfl (pv 12)) (blkOk_by (own := [("_law_step", 3)]) (N := N_law_both) (sc := defScope s_law_both) (by decide +kernel)) (fun _ _ _ _ _ => (pg_name (i := 3) sc_law_both.nd rfl (.inl rfl))) (fun _ _ _ _ _ => pts_one (pt_cmpR op_gt (pv 3) (pv 2) (nomark _))) (fun _ _ _ _ _ => (pv 3))) pa_nil)) (pa_cons (pv 2) pa_nil)))))))))))), ?_⟩
  try dsimp only [cxOf, Cx.nox, Cx.wish]
  obtain ⟨r1, e1'⟩ := X
  obtain ⟨r2, e2'⟩ := Y
  have h0 : Dp K H v0 (.tuple [.tuple (r1.map runD), .int (e1' : Nat)]) := h0
  have h1 : Dp K H v1 (.tuple [.tuple (r2.map runD), .int (e2' : Nat)]) := h1
  have fX : far r1 ≤ 60000 := hX.far
  have fY : far r2 ≤ 60000 := hY.far
  have nX : e1' ≤ 576 := hX.en
  have nY : e2' ≤ 576 := hY.en
  have hL : Nat.lcm e1' e2' ≤ 576 := hL
  refine q_when (b := decide ((e1' : Int) = 0) || decide ((e2' : Int) = 0)) (et_or (by walk_at "et") fun _ => by walk_at "et") (fun hz H2 e2 => ?_) (fun hz H2 e2 => ?_)
  · have hz : e1' = 0 ∨ e2' = 0 := by
      rcases Bool.or_eq_true _ _ |>.mp hz with h | h
      · left; have := of_decide_eq_true h; omega
      · right; have := of_decide_eq_true h; omega
    exact s_ret K (d := rowD (bothRow (r1, e1') (r2, e2'))) (evd_is (d := .tuple [.tuple [], .int 0]) (by walk_at "ev") (by rw [both_zero hX.v hY.v hz]; rfl)) fun v H3 e3 dv => k v H3 (by walk_at "ex") dv
  have hz : 0 < e1' ∧ 0 < e2' := by
    have := Bool.or_eq_false_iff.mp hz
    have h1 := of_decide_eq_false this.1
    have h2 := of_decide_eq_false this.2
    omega
  have hgp : 0 < Nat.gcd e1' e2' := Nat.gcd_pos_of_pos_left _ hz.1
  have hgl : Nat.gcd e1' e2' ≤ e1' := Nat.gcd_le_left _ hz.1
  have hLp := Nat.lcm_pos hz.1 hz.2
  refine q_set K (d := .int (Nat.lcm e1' e2' : Nat)) (evd_is (d := .int ((e1' : Int).fdiv (Nat.gcd e1' e2' : Nat) * (e2' : Nat))) (evd_op (evd_op (by walk_at "ev") (evd_call (ds := [.int (e1' : Nat), .int (e2' : Nat)]) (by walk_at "ea") ⟨e1', e2', rfl, rfl⟩) (rd_div (by omega) (by omega))) (by walk_at "ev") (rd_mul (by right; constructor <;> omega))) ?_) fun v2 H3 e3 d2 => ?_
  · rw [fdivN, ← Int.natCast_mul]
    congr 2
    unfold Nat.lcm
    rw [Nat.mul_comm e1' e2', Nat.mul_div_assoc _ (Nat.gcd_dvd_left e1' e2'), Nat.mul_comm]
  cases dp_int d2
  have smr : ∀ p ∈ r1 ++ r2, p.1 < 2 ^ 60 ∧ p.2 < 2 ^ 60 := fun p hp => by
    rcases List.mem_append.mp hp with h | h
    · exact hX.ok.sm p h
    · exact hY.ok.sm p h
  have l1 := hX.ok.len
  have l2 := hY.ok.len
  have l1 : r1.length ≤ 30 := l1
  have l2 : r2.length ≤ 30 := l2
  refine q_set K (d := .int (far r1 + far r2 : Nat)) (evd_is (evd_cb (ds := [.list (((r1 ++ r2).map fun p => ((p.1 * p.2 : Nat) : Int)).map .int)]) (evda_cons (evd_is (evd_lcI (b := false) runD (r1 ++ r2) (fun _ => true) (fun p => .int ((p.1 * p.2 : Nat) : Int)) (evd_is (evd_op (d := .tuple (r1.map runD)) (e := .tuple (r2.map runD)) (by walk_at "ev") (by walk_at "ev") (rd_plusT (by rw [List.length_map, List.length_map]; omega))) (by rw [← List.map_append]; rfl)) (by rw [List.length_append]; omega) (fun _ _ _ => rfl) fun p hp => ?_) (by rw [filter_yes, List.map_map]; rfl)) evda_nil) rc_sum) ?_) fun v5 H4 e4 d5 => ?_
  · obtain ⟨s, t⟩ := p
    have sm := smr _ hp
    refine lct_two (fun v u => rfl) fun v u H1 e dv du => ⟨et_yes, fun _ => ?_⟩
    have dv : Dp K H1 v (.int (s : Nat)) := dv
    have du : Dp K H1 u (.int (t : Nat)) := du
    cases dp_int dv
    cases dp_int du
    exact d_int (evd_op (by walk_at "ev") (by walk_at "ev") (rd_mul (by have := sm.1; have := sm.2; simp only at *; left; constructor <;> omega))) (by rw [Int.natCast_mul])
  · rw [List.map_append, List.sum_append, sum_far, sum_far, Int.natCast_add]
  cases dp_int d5
  have hbl := lawBound_le (far r1 + far r2) (Nat.lcm e1' e2')
  have hq := Nat.div_le_self (far r1 + far r2) (Nat.lcm e1' e2')
  refine q_set K (d := .int (lawBound (far r1 + far r2) (Nat.lcm e1' e2') : Nat)) (evd_is (d := .int ((((far r1 + far r2 : Nat) : Int).fdiv (Nat.lcm e1' e2' : Nat) + 2) * (Nat.lcm e1' e2' : Nat) + 1)) (evd_op (evd_op (evd_op (evd_op (by walk_at "ev") (by walk_at "ev") (rd_div (by omega) (by omega))) (by walk_at "ev") rd_plus) (by walk_at "ev") (rd_mul (by right; constructor <;> omega))) (by walk_at "ev") rd_plus) (by rw [fdivN]; unfold lawBound; simp)) fun v6 H5 e5 d6 => ?_
  cases dp_int d6
  obtain ⟨F, S, hF, hbo, hin⟩ : ∃ F S : Bfb.Row, EvD K (tIf (tTest (tOp (rI0 fun i j => V.bl (decide (j < i))) (tOp (rIx K) (tVar 0) (tC (V.int 1))) (tOp (rIx K) (tVar 1) (tC (V.int 1))))) (tTup (tCons (tVar 0) (tCons (tVar 1) tNil))) (tTup (tCons (tVar 1) (tCons (tVar 0) tNil))))
      [some v0, some v1, some (.int (Nat.lcm e1' e2' : Nat)), none, none, some (.int (far r1 + far r2 : Nat)), some (.int (lawBound (far r1 + far r2) (Nat.lcm e1' e2') : Nat)), none, none, none, none, none, none, none] H5 (.tuple [rowD F, rowD S]) ∧
      (∀ x, within F.1 F.2 x = true ∧ within S.1 S.2 x = true ↔ Both r1 e1' r2 e2' x) ∧
      (VR F ∧ Ok S ∧ (runsL F.1 0).length + (tailL (far F.1) F.2 (lawBound (far r1 + far r2) (Nat.lcm e1' e2'))).length ≤ 95000) := by
    by_cases hgt : e2' < e1'
    · refine ⟨(r1, e1'), (r2, e2'), ?_, fun x => Iff.rfl, hX.v, hY.ok, (inL_small (r1 := r1) (e1 := e1') (e2 := e2') hX.v fX hz.1 nX (by omega) hz.2 (Nat.le_of_lt hgt) hL).1⟩
      exact evd_if (b := true) (et_is (a := decide ((e2' : Int) < (e1' : Int))) (by walk_at "et") (decide_eq_true (by omega))) (fun _ => show EvD K _ _ _ (.tuple [.tuple [.tuple (r1.map runD), .int (e1' : Nat)], .tuple [.tuple (r2.map runD), .int (e2' : Nat)]]) from by walk_at "ev") fun z => nomatch z
    · refine ⟨(r2, e2'), (r1, e1'), ?_, fun x => And.comm, hY.v, hX.ok, (inL_small (r1 := r2) (e1 := e2') (e2 := e1') hY.v fY hz.2 nY (by rw [Nat.lcm_comm e2' e1']; omega) hz.1 (by omega) (by rw [Nat.lcm_comm]; exact hL)).1⟩
      exact evd_if (b := false) (et_is (a := decide ((e2' : Int) < (e1' : Int))) (by walk_at "et") (decide_eq_false (by omega))) (fun z => nomatch z) fun _ => show EvD K _ _ _ (.tuple [.tuple [.tuple (r2.map runD), .int (e2' : Nat)], .tuple [.tuple (r1.map runD), .int (e1' : Nat)]]) from by walk_at "ev"
  obtain ⟨vF, okS, hlen⟩ := hin
  refine q_asg K (d := .tuple [rowD F, rowD S]) hF fun v H6 e6 dv => ?_
  refine g_two dv fun v7 v8 d7 d8 => ?_
  generalize hN : lawBound (far r1 + far r2) (Nat.lcm e1' e2') = n at *
  have hil : (inL F.1 F.2 n).length ≤ 95000 := by
    unfold inL
    have := List.length_filter_le (fun x => decide (x < n)) (runsL F.1 0 ++ tailL (far F.1) F.2 n)
    rw [List.length_append] at this
    omega
  let l : List Nat := (inL F.1 F.2 n).filter fun x => within S.1 S.2 x
  have hll : l.length ≤ 95000 := Nat.le_trans (List.length_filter_le _ _) hil
  have row : IsRow (runsOf ((gapsL l).filter fun x => decide (Nat.lcm e1' e2' < x))) (Nat.lcm e1' e2') (Both r1 e1' r2 e2') := by
    refine law_both (f := far r1 + far r2) hX.v hY.v hz.1 hz.2 (by show max (far r1) (far r2) ≤ _; omega) ((inL_asc vF).filter _) fun x => ?_
    rw [hN, ← hbo x, List.mem_filter, inL_mem vF]
    constructor
    · rintro ⟨⟨a, b⟩, c⟩; exact ⟨⟨a, c⟩, b⟩
    · rintro ⟨⟨a, c⟩, b⟩; exact ⟨⟨a, b⟩, c⟩
  have eb : (runsOf ((gapsL l).filter fun x => decide (Nat.lcm e1' e2' < x)), Nat.lcm e1' e2') = bothRow (r1, e1') (r2, e2') := bothRow_eq hX.v hY.v row
  have hl0 : 0 < l.length := by
    refine List.length_pos_of_mem (a := 0) (List.mem_filter.mpr ⟨(inL_mem vF).mpr ⟨(valid_closed vF).zero, ?_⟩, (valid_closed okS.v).zero⟩)
    rw [← hN]; unfold lawBound; omega
  have hlasc : l.Pairwise (· < ·) := (inL_asc vF).filter _
  refine q_set K (d := .list (l.map intN)) (evd_lcI (b := true) intN (inL F.1 F.2 n) (fun x => within S.1 S.2 x) intN (evd_call (ds := [rowD F, .int (n : Nat)]) (by walk_at "ea") ⟨F.1, F.2, n, hlen, rfl, rfl⟩) (by omega) (fun _ _ _ => rfl) fun c hc => ?_) fun v10 H7 e7 d10 => ?_
  · refine lct_name (fun v => rfl) fun v H1 e dv => ?_
    have dv : Dp K H1 v (.int (c : Nat)) := dv
    cases dp_int dv
    exact ⟨et_B (K := K) (evd_call (ds := [rowD S, .int (c : Nat)]) (by walk_at "ea") ⟨S.1, S.2, c, okS.sm, rfl, rfl⟩), fun _ => show EvD K _ _ _ (.int (c : Nat)) from by walk_at "ev"⟩
  generalize hl : l = l at *
  refine q_set K (d := .list ((gapsL l).map intN)) (evd_is (evd_mapR (n := l.length - 1) (fun i => intN (l.getD (i + 1) 0 - l.getD i 0)) (evda_cons (d_int (evd_op (evd_is (evd_cb (ds := [.list (l.map intN)]) (by walk_at "ea") rc_len) (by rw [List.length_map])) (by walk_at "ev") rd_sub) (by omega)) evda_nil) (by omega) (fun _ _ => rfl) fun i hi => ?_) (by rw [gaps_range, List.map_map]; rfl)) fun v12 H8 e8 d12 => ?_
  · obtain ⟨a, ha⟩ : ∃ a, l[i]? = some a := ⟨_, List.getElem?_eq_getElem (by omega)⟩
    obtain ⟨b, hb⟩ : ∃ b, l[i + 1]? = some b := ⟨_, List.getElem?_eq_getElem (by omega)⟩
    have hab := asc_get hlasc ha hb
    have i0 : atI (l.map intN) (i : Int) = some (.int (a : Nat)) := at_nat (by rw [List.getElem?_map, ha]; rfl)
    have i1 : atI (l.map intN) ((i : Int) + 1) = some (.int (b : Nat)) := at_nat (i := i + 1) (by rw [List.getElem?_map, hb]; rfl)
    refine lct_name (fun v => rfl) fun v H1 e dv => ⟨et_yes, fun _ => ?_⟩
    cases dp_int dv
    refine d_int (evd_op (evd_op (d := .list (l.map intN)) (by walk_at "ev") (by walk_at "ev") (rd_ixL i1)) (evd_op (d := .list (l.map intN)) (by walk_at "ev") (by walk_at "ev") (rd_ixL i0)) rd_sub) ?_
    rw [List.getD_eq_getElem?_getD, List.getD_eq_getElem?_getD, ha, hb]
    simp only [Option.getD_some]
    omega
  have hgl : (gapsL l).length ≤ 95000 := by rw [gaps_range, List.length_map, List.length_range]; omega
  have hfl := List.length_filter_le (fun x => decide (Nat.lcm e1' e2' < x)) (gapsL l)
  refine s_ret K (d := rowD (bothRow (r1, e1') (r2, e2'))) (evd_is (evd_tup (evda_cons (evd_call (ds := [.list (((gapsL l).filter fun x => decide (Nat.lcm e1' e2' < x)).map intN)]) (evda_cons (evd_lcI (b := true) intN (gapsL l) (fun x => decide (Nat.lcm e1' e2' < x)) intN (show EvD K _ _ _ (.list ((gapsL l).map intN)) from by walk_at "ev") (by omega) (fun _ _ _ => rfl) fun c hc => ?_) evda_nil) ⟨_, by omega, rfl, rfl⟩) (evda_cons (by walk_at "ev") evda_nil)) (by walk_at "ln")) (by rw [← eb]; rfl)) fun v H9 e9 dv => k v H9 (by walk_at "ex") dv
  refine lct_name (fun v => rfl) fun v H1 e dv => ?_
  have dv : Dp K H1 v (.int (c : Nat)) := dv
  cases dp_int dv
  exact ⟨et_is (a := decide (((Nat.lcm e1' e2' : Nat) : Int) < (c : Int))) (by walk_at "et") (decide_eq_decide.mpr (by omega)), fun _ => show EvD K _ _ _ (.int (c : Nat)) from by walk_at "ev"⟩
end Bw
end
section
set_option Elab.async false
set_option linter.all false
set_option maxRecDepth 100000
set_option maxHeartbeats 4000000
/-! texts of rows and tables. -/
namespace Bw
open PySem PySem.Spec PyProof.Rows L2 Bfb TL
/-! ### as signs -/
def runT (p : Nat × Nat) : List Nat := 40 :: (numL p.1 ++ 44 :: 32 :: (numL p.2 ++ [41]))
def restT : Runs → List Nat
  | [] => [41]
  | p :: r => 44 :: 32 :: (runT p ++ restT r)
def runsT : Runs → List Nat
  | [] => [40, 41]
  | [p] => 40 :: (runT p ++ [44, 41])
  | p :: q :: r => 40 :: (runT p ++ restT (q :: r))
def rowT (R : Bfb.Row) : List Nat := 40 :: (runsT R.1 ++ 44 :: 32 :: (numL R.2 ++ [41]))
theorem cut_eq {p : Nat → Prop} : ∀ {a b : List Nat} {c d : Nat} {x y : List Nat}, (∀ z ∈ a, p z) → (∀ z ∈ b, p z) → ¬ p c → ¬ p d → a ++ c :: x = b ++ d :: y → a = b ∧ c :: x = d :: y
  | [], [], _, _, _, _, _, _, _, _, h => ⟨rfl, h⟩
  | [], z :: b, c, d, x, y, _, hb, hc, _, h => by
    rw [List.nil_append, List.cons_append] at h
    injection h with h1 _
    exact absurd (hb z List.mem_cons_self) (h1 ▸ hc)
  | z :: a, [], c, d, x, y, ha, _, _, hd, h => by
    rw [List.nil_append, List.cons_append] at h
    injection h with h1 _
    exact absurd (ha z List.mem_cons_self) (h1 ▸ hd)
  | z :: a, u :: b, c, d, x, y, ha, hb, hc, hd, h => by
    rw [List.cons_append, List.cons_append] at h
    injection h with h1 h2
    obtain ⟨e1, e2⟩ := cut_eq (fun w hw => ha w (List.mem_cons_of_mem _ hw)) (fun w hw => hb w (List.mem_cons_of_mem _ hw)) hc hd h2
    exact ⟨by rw [h1, e1], e2⟩
theorem num_dig {n z : Nat} (hz : z ∈ numL n) : 48 ≤ z ∧ z ≤ 57 := by
  rcases Nat.lt_or_ge z 48 with q | q
  · exact absurd hz (numL_free (.inl q))
  · rcases Nat.lt_or_ge 57 z with q2 | q2
    · exact absurd hz (numL_free (.inr q2))
    · exact ⟨q, q2⟩
theorem num_cut {n m c d : Nat} {x y : List Nat} (hc : c < 48 ∨ 57 < c) (hd : d < 48 ∨ 57 < d) (h : numL n ++ c :: x = numL m ++ d :: y) : n = m ∧ c :: x = d :: y := by
  have := cut_eq (p := fun z => 48 ≤ z ∧ z ≤ 57) (fun z hz => num_dig hz) (fun z hz => num_dig hz) (by omega) (by omega) h
  exact ⟨numL_inj this.1, this.2⟩
theorem runT_cut {p q : Nat × Nat} {x y : List Nat} (h : runT p ++ x = runT q ++ y) : p = q ∧ x = y := by
  obtain ⟨a, b⟩ := p
  obtain ⟨c, d⟩ := q
  simp only [runT, List.cons_append, List.append_assoc] at h
  injection h with _ h
  obtain ⟨h1, h2⟩ := num_cut (.inl (by decide)) (.inl (by decide)) h
  injection h2 with _ h2
  injection h2 with _ h2
  obtain ⟨h3, h4⟩ := num_cut (.inl (by decide)) (.inl (by decide)) h2
  injection h4 with _ h4
  exact ⟨by rw [show a = c from h1, show b = d from h3], h4⟩
theorem restT_cut : ∀ {r s : Runs} {x y : List Nat}, restT r ++ x = restT s ++ y → r = s ∧ x = y
  | [], [], x, y, h => by injection h with _ h; exact ⟨rfl, h⟩
  | [], _ :: _, _, _, h => by injection h with h _; cases h
  | _ :: _, [], _, _, h => by injection h with h _; cases h
  | p :: r, q :: s, x, y, h => by
    simp only [restT, List.cons_append, List.append_assoc] at h
    injection h with _ h
    injection h with _ h
    obtain ⟨h1, h2⟩ := runT_cut h
    obtain ⟨h3, h4⟩ := restT_cut h2
    exact ⟨by rw [h1, h3], h4⟩
theorem runsT_cut {r s : Runs} {x y : List Nat} (h : runsT r ++ x = runsT s ++ y) : r = s ∧ x = y := by
  match r, s, h with
  | [], [], h => injection h with _ h; injection h with _ h; exact ⟨rfl, h⟩
  | [], [_], h => injection h with _ h; injection h with h _; cases h
  | [], _ :: _ :: _, h => injection h with _ h; injection h with h _; cases h
  | [_], [], h => injection h with _ h; injection h with h _; cases h
  | _ :: _ :: _, [], h => injection h with _ h; injection h with h _; cases h
  | [p], [q], h =>
    simp only [runsT, List.cons_append, List.append_assoc] at h
    injection h with _ h
    obtain ⟨h1, h2⟩ := runT_cut h
    injection h2 with _ h2
    injection h2 with _ h2
    exact ⟨by rw [h1], h2⟩
  | [p], q :: q2 :: s, h =>
    simp only [runsT, List.cons_append, List.append_assoc] at h
    injection h with _ h
    obtain ⟨h1, h2⟩ := runT_cut h
    injection h2 with _ h2
    injection h2 with h2 _
    cases h2
  | p :: p2 :: r, [q], h =>
    simp only [runsT, List.cons_append, List.append_assoc] at h
    injection h with _ h
    obtain ⟨h1, h2⟩ := runT_cut h
    injection h2 with _ h2
    injection h2 with h2 _
    cases h2
  | p :: p2 :: r, q :: q2 :: s, h =>
    simp only [runsT, List.cons_append, List.append_assoc] at h
    injection h with _ h
    obtain ⟨h1, h2⟩ := runT_cut h
    obtain ⟨h3, h4⟩ := restT_cut h2
    exact ⟨by rw [h1, h3], h4⟩
theorem rowT_cut {R S : Bfb.Row} {x y : List Nat} (h : rowT R ++ x = rowT S ++ y) : R = S ∧ x = y := by
  obtain ⟨r, e⟩ := R
  obtain ⟨s, f⟩ := S
  simp only [rowT, List.cons_append, List.append_assoc] at h
  injection h with _ h
  obtain ⟨h1, h2⟩ := runsT_cut h
  injection h2 with _ h2
  injection h2 with _ h2
  obtain ⟨h3, h4⟩ := num_cut (.inl (by decide)) (.inl (by decide)) h2
  injection h4 with _ h4
  exact ⟨by rw [h1, h3], h4⟩
/-! ### the model's texts -/
theorem tl_int (n : Nat) : tl (PyData.shown (.int (n : Nat))) = numL n := by
  simp only [PyData.shown]
  exact tl_num n
theorem tl_tuple2 (a b : Str) : tl (tupleText [a, b]) = 40 :: (tl a ++ 44 :: 32 :: (tl b ++ [41])) := by
  unfold tupleText
  rw [tl_append, tl_append, tl_join]
  simp only [List.map_cons, List.map_nil, joinL, List.append_assoc]
  rfl
theorem tl_run (p : Nat × Nat) : tl (runD p).shown = runT p := by
  obtain ⟨a, b⟩ := p
  unfold runD
  simp only [PyData.shown, PyData.shownAll]
  rw [tl_tuple2]
  have := tl_num a
  have h2 := tl_num b
  unfold runT
  rw [show tl (toString ((a : Nat) : Int) : Str) = numL a from tl_num a, show tl (toString ((b : Nat) : Int) : Str) = numL b from tl_num b]
theorem shownAll_runs : ∀ r : Runs, (PyData.shownAll (r.map runD)).map tl = r.map runT
  | [] => rfl
  | p :: r => by
    rw [List.map_cons, PyData.shownAll, List.map_cons, List.map_cons, tl_run, shownAll_runs r]
theorem join_rest : ∀ (p : Nat × Nat) (r : Runs), joinL [44, 32] ((p :: r).map runT) ++ [41] = runT p ++ restT r
  | p, [] => by simp [joinL, restT]
  | p, q :: r => by
    have := join_rest q r
    simp only [List.map_cons, joinL, List.append_assoc] at this ⊢
    rw [this]
    rfl
theorem tl_runs (r : Runs) : tl (runsD r).shown = runsT r := by
  unfold runsD
  simp only [PyData.shown]
  unfold tupleText
  have hl : (PyData.shownAll (r.map runD)).length = r.length := by
    have := congrArg List.length (shownAll_runs r)
    rwa [List.length_map, List.length_map] at this
  rw [tl_append, tl_append, tl_join, shownAll_runs, hl]
  match r with
  | [] => rfl
  | [p] => rfl
  | p :: q :: r =>
    have := join_rest p (q :: r)
    show [40] ++ joinL [44, 32] _ ++ [41] = _
    rw [List.append_assoc, this]
    rfl
theorem tl_row (R : Bfb.Row) : tl (rowD R).shown = rowT R := by
  obtain ⟨r, e⟩ := R
  unfold rowD
  have h1 := tl_runs r
  simp only [PyData.shown, PyData.shownAll]
  rw [tl_tuple2]
  have h2 : tl (toString ((e : Nat) : Int) : Str) = numL e := tl_num e
  rw [h2, h1]
  rfl
/-! ### tables -/
def keyD (k : TK) : PyData := .tuple (k.map fun | .inl i => .int i | .inr s => .str s)
def tabD (tab : List (TK × PyData)) : PyData := .dict (tab.map fun p => (keyD p.1, p.2))
theorem kv_text (f : Nat × Nat → Bfb.Row) : ∀ ks : List (Nat × Nat), (PyData.shownKv ((tabOf ks f).map fun p => (keyD p.1, p.2))).map tl = ks.map fun k => runT k ++ 58 :: 32 :: rowT (f k)
  | [] => rfl
  | k :: ks => by
    have ih := kv_text f ks
    show (PyData.shownKv ((keyD (kyN k), rowD (f k)) :: ((tabOf ks f).map fun p => (keyD p.1, p.2)))).map tl = _
    rw [PyData.shownKv, List.map_cons, List.map_cons, ih]
    congr 1
    rw [tl_append, tl_append, tl_row]
    have : tl (keyD (kyN k)).shown = runT k := tl_run k
    rw [this]
    show runT k ++ [58, 32] ++ _ = _
    rw [List.append_assoc]
    rfl
theorem tl_tab (ks : List (Nat × Nat)) (f : Nat × Nat → Bfb.Row) : tl (tabD (tabOf ks f)).shown = 123 :: (joinL [44, 32] (ks.map fun k => runT k ++ 58 :: 32 :: rowT (f k)) ++ [125]) := by
  unfold tabD
  simp only [PyData.shown]
  unfold dictText
  rw [tl_append, tl_append, tl_join, kv_text]
  rfl
theorem join_cut {f g : Nat × Nat → Bfb.Row} : ∀ {ks : List (Nat × Nat)} {x y : List Nat}, joinL [44, 32] (ks.map fun k => runT k ++ 58 :: 32 :: rowT (f k)) ++ x = joinL [44, 32] (ks.map fun k => runT k ++ 58 :: 32 :: rowT (g k)) ++ y → ∀ k ∈ ks, f k = g k
  | [], _, _, _ => fun k hk => nomatch hk
  | [a], x, y, h => fun k hk => by
    rw [List.mem_singleton.mp hk]
    simp only [List.map_cons, List.map_nil, joinL, List.append_assoc, List.cons_append] at h
    have h := List.append_cancel_left h
    injection h with _ h
    injection h with _ h
    exact (rowT_cut h).1
  | a :: b :: ks, x, y, h => fun k hk => by
    simp only [List.map_cons, joinL, List.append_assoc, List.cons_append] at h
    have h := List.append_cancel_left h
    injection h with _ h
    injection h with _ h
    obtain ⟨h1, h2⟩ := rowT_cut h
    injection h2 with _ h2
    injection h2 with _ h2
    have ih := join_cut (ks := b :: ks) (x := x) (y := y) (f := f) (g := g) (by
      simp only [List.nil_append] at h2
      simpa only [List.map_cons] using h2)
    rcases List.mem_cons.mp hk with rfl | hk
    · exact h1
    · exact ih k hk
theorem tab_inj {ks : List (Nat × Nat)} {f g : Nat × Nat → Bfb.Row} (h : (tabD (tabOf ks f)).shown = (tabD (tabOf ks g)).shown) : ∀ k ∈ ks, f k = g k := by
  have h := congrArg tl h
  rw [tl_tab, tl_tab] at h
  injection h with _ h
  exact join_cut h
end Bw
end
section
set_option Elab.async false
set_option linter.all false
set_option maxRecDepth 100000
set_option maxHeartbeats 4000000
/-! repr of data and of tables. -/
namespace Bw
open PySem PySem.Spec PyProof.Rows L2 Bfb TL
mutual
theorem reads_nil {h : Heap} : ∀ {d : PyData} {v : Value} {as : List Addr}, noL d = true → Reads h v d as → as = []
  | .none, _, _, _, .none => rfl
  | .bool _, _, _, _, .bool _ => rfl
  | .int _, _, _, _, .int _ _ => rfl
  | .str _, _, _, _, .str _ _ => rfl
  | .tuple _, _, _, n, .tuple _ _ _ r => readsAll_nil (by simpa [noL] using n) r
  | .list _, _, _, n, _ => by simp [noL] at n
  | .dict _, _, _, n, _ => by simp [noL] at n
theorem readsAll_nil {h : Heap} : ∀ {ds : List PyData} {vs : List Value} {as : List Addr}, noLs ds = true → ReadsAll h vs ds as → as = []
  | [], _, _, _, .nil => rfl
  | _ :: _, _, _, n, .cons r rs => by
    simp only [noLs, Bool.and_eq_true] at n
    rw [reads_nil n.1 r, readsAll_nil n.2 rs]
    rfl
end
theorem dp_key {K : PySem.W.Frag} {H : Hp} {b : Addr} {k : TK} (h : H b = some (.tup (k.map kV))) : Dp K H (.ref b) (keyD k) := by
  refine .tup (SqT.of h) ?_
  clear h
  induction k with
  | nil => exact .nil
  | cons x k ih =>
    cases x with
    | inl i => exact .cons (.int i) ih
    | inr s => exact .cons (.str s) ih
theorem noL_key (k : TK) : noL (keyD k) = true := noLs_all fun d hd => by
  obtain ⟨x, _, rfl⟩ := List.mem_map.mp hd
  cases x <;> rfl
section
variable {X : Cx} {pins : List (Addr × Obj)} {σ : L2.St} {H : Hp} {s : Shared} {a : Addr} {tab : List (TK × PyData)}
theorem tab_reads (I : Inv X pins σ H s) (t : Tab X.K H a tab) (n : ∀ p ∈ tab, noL p.2 = true) : (a == sysModules) = false ∧ Reads s.heap (.ref a) (tabD tab) [a] := by
  obtain ⟨kvs, h1, h2, h3⟩ := t
  obtain ⟨_, nsm, xs, rel, o, es, ep, go, ex, hd, he, _, _⟩ := dt_of I.hok h1
  refine ⟨nsm, ?_⟩
  have main : ∀ {kvs : List (TK × V)} {xs : List (TK × Addr × Value)} {tab : List (TK × PyData)}, KT H kvs xs → kvs.map (·.1) = tab.map (·.1) → DpAll X.K H (kvs.map (·.2)) (tab.map (·.2)) → (∀ p ∈ tab, noL p.2 = true) →
      ReadsAll s.heap ((xs.map (entryOfKey (tupleKind (mixKind X.prog X.w)))).map (·.key)) ((tab.map fun p => (keyD p.1, p.2)).map (·.1)) [] ∧ ReadsAll s.heap ((xs.map (entryOfKey (tupleKind (mixKind X.prog X.w)))).map (·.val)) ((tab.map fun p => (keyD p.1, p.2)).map (·.2)) [] := by
    intro kvs xs tab r
    induction r generalizing tab with
    | nil =>
      intro e _ _
      cases tab with
      | nil => exact ⟨.nil, .nil⟩
      | cons p tab => cases e
    | @cons p q ps qs hq t ih =>
      intro e d n
      cases tab with
      | nil => cases e
      | cons u tab =>
        rw [List.map_cons, List.map_cons] at e
        injection e with e1 e2
        rw [List.map_cons, List.map_cons] at d
        cases d with
        | cons d1 d2 =>
          obtain ⟨i1, i2⟩ := ih e2 d2 fun p hp => n p (List.mem_cons_of_mem _ hp)
          obtain ⟨q1, q2, q3⟩ := hq
          obtain ⟨as, ra⟩ := Dp.reads I (keyD p.1) (.ref q.2.1) (.ref q.2.1) (dp_key q2) rfl
          obtain ⟨bs, rb⟩ := Dp.reads I u.2 p.2 q.2.2 d1 q3
          have ea := reads_nil (noL_key _) ra
          have eb := reads_nil (n u List.mem_cons_self) rb
          subst ea eb
          have ek : keyD u.1 = keyD p.1 := by rw [show p.1 = u.1 from e1]
          refine ⟨?_, ?_⟩
          · simp only [List.map_cons]
            rw [ek]
            exact ReadsAll.cons (as := []) (bs := []) ra i1
          · simp only [List.map_cons]
            exact ReadsAll.cons (as := []) (bs := []) rb i2
  obtain ⟨m1, m2⟩ := main rel h2 h3 n
  rw [← he] at m1 m2
  have := Reads.dict (h := s.heap) (a := a) (kvs := tab.map fun p => (keyD p.1, p.2)) (as := []) (bs := []) go ex.1 hd m1 m2
  exact this
/-- repr of data, of a table -/
def rRepr (K : PySem.W.Frag) : List V → Hp → VK → Prop := fun vs H Q => ∃ a, vs = [.ref a] ∧
  ((∃ d, Dp K H (.ref a) d ∧ d.showable = true ∧ noL d = true ∧ d.shown.length ≤ sizeLine ∧ d.depth ≤ 64 ∧ Q (.str d.shown) H) ∨
   ∃ tab, Tab K H a tab ∧ (∀ p ∈ tab, noL p.2 = true) ∧ (tabD tab).showable = true ∧ (tabD tab).shown.length ≤ sizeLine ∧ (tabD tab).depth ≤ 64 ∧ Q (.str (tabD tab).shown) H)
theorem cr_repr {K : PySem.W.Frag} (hK : X.K = K) (hg : X.A.guards = some []) (hu : X.A.units + 66 < cLine) : CallR X (.builtin "repr") (rRepr K) := by
  subst hK
  intro pins s σ H xs us Q I r h
  obtain ⟨a, rfl, h⟩ := h
  rw [Vals.ref1 r]
  rcases h with ⟨d, hd, hs, hn, hl, hp, q⟩ | ⟨tab, ht, hn, hs, hl, hp, q⟩
  · obtain ⟨as, rd⟩ := Dp.reads I d _ (.ref a) hd rfl
    have ea := reads_nil hn rd
    refine repr_of_reads' (hsz := hl) rd hs (fun _ => by rw [ea]; exact List.not_mem_nil) hg (by omega) (fun b o e => e) fun h' u tk k => ?_
    exact ⟨.str d.shown, H, I.kept k, ⟨_, rfl⟩, q⟩
  · obtain ⟨ns, rd⟩ := tab_reads I ht hn
    refine repr_of_reads' (hsz := hl) rd hs (fun _ z => ?_) hg (by omega) (fun b o e => e) fun h' u tk k => ?_
    · rw [List.mem_singleton.mp z, beq_self_eq_true] at ns
      cases ns
    · exact ⟨.str (tabD tab).shown, H, I.kept k, ⟨_, rfl⟩, q⟩
end
end Bw
end
section
set_option Elab.async false
set_option linter.all false
set_option maxRecDepth 100000
set_option maxHeartbeats 4000000
/-! how long the texts are; promises of defs that ask repr. -/
namespace Bw
open PySem PySem.Spec PyProof.Rows L2 Bfb TL
theorem num_len {n : Nat} (h : n < 65536) : (numL n).length ≤ 5 := numL_len (by decide) (by omega)
theorem runT_len {p : Nat × Nat} (h1 : p.1 < 65536) (h2 : p.2 < 65536) : (runT p).length ≤ 14 := by
  have a := num_len h1
  have b := num_len h2
  simp only [runT, List.length_cons, List.length_append, List.length_nil]
  omega
theorem restT_len : ∀ {r : Runs}, (∀ p ∈ r, p.1 < 65536 ∧ p.2 < 65536) → (restT r).length ≤ 1 + 16 * r.length
  | [], _ => by simp [restT]
  | p :: r, h => by
    have a := restT_len (r := r) fun q hq => h q (List.mem_cons_of_mem _ hq)
    have b := h p List.mem_cons_self
    have c := runT_len b.1 b.2
    simp only [restT, List.length_cons, List.length_append]
    omega
theorem runsT_len {r : Runs} (h : ∀ p ∈ r, p.1 < 65536 ∧ p.2 < 65536) : (runsT r).length ≤ 3 + 16 * r.length := by
  match r, h with
  | [], _ => simp [runsT]
  | [p], h =>
    have b := h p List.mem_cons_self
    have c := runT_len b.1 b.2
    simp only [runsT, List.length_cons, List.length_append, List.length_nil]
    omega
  | p :: q :: r, h =>
    have a := restT_len (r := q :: r) fun q hq => h q (List.mem_cons_of_mem _ hq)
    have b := h p List.mem_cons_self
    have c := runT_len b.1 b.2
    simp only [runsT, List.length_cons, List.length_append, List.length_nil] at a ⊢
    omega
theorem ok_small {R : Bfb.Row} (h : Ok R) : ∀ p ∈ R.1, p.1 < 65536 ∧ p.2 < 65536 := fun p hp => by
  obtain ⟨i, hi⟩ := List.mem_iff_getElem?.mp hp
  obtain ⟨s, t⟩ := p
  have h1 := (run_ok h.v hi).sle
  have h2 := (run_ok h.v hi).tle
  have h3 := h.far
  show s < 65536 ∧ t < 65536
  omega
theorem rowT_len {R : Bfb.Row} (h : Ok R) : (rowT R).length ≤ 500 := by
  have a := runsT_len (ok_small h)
  have b := num_len h.en
  have c := h.len
  simp only [rowT, List.length_cons, List.length_append, List.length_nil]
  omega
theorem joinL_len (n : Nat) : ∀ l : List (List Nat), (∀ p ∈ l, p.length ≤ n) → (joinL [44, 32] l).length ≤ l.length * (n + 2)
  | [], _ => by simp [joinL]
  | [p], h => by
    have := h p List.mem_cons_self
    simp only [joinL, List.length_cons, List.length_nil]
    omega
  | p :: q :: r, h => by
    have a := h p List.mem_cons_self
    have b := joinL_len n (q :: r) fun z hz => h z (List.mem_cons_of_mem _ hz)
    simp only [joinL, List.length_append, List.length_cons, List.length_nil] at b ⊢
    rw [Nat.succ_mul]
    omega
theorem tupleText_len (ts : List Str) (n : Nat) (h : ∀ t ∈ ts, (tl t).length ≤ n) : (tl (tupleText ts)).length ≤ ts.length * (n + 2) + 3 := by
  unfold tupleText
  rw [tl_append, tl_append, tl_join, List.length_append, List.length_append]
  have a := joinL_len n (ts.map tl) fun p hp => by
    obtain ⟨t, ht, rfl⟩ := List.mem_map.mp hp
    exact h t ht
  rw [List.length_map] at a
  have b : (tl (if (ts.length == 1) = true then (",)" : String) else ")" : String)).length ≤ 2 := by split <;> decide
  have c : (tl ("(" : Str)).length = 1 := rfl
  have e : tl (", " : Str) = [44, 32] := rfl
  rw [e]
  omega
/-! rows within tables and answers -/
theorem canShow_int {n : Nat} (h : n < 65536) : (PyData.int (n : Nat)).showable = true := by
  simp only [PyData.showable]
  refine decide_eq_true ?_
  rw [Int.natAbs_natCast]
  by_cases h0 : n = 0
  · subst h0; decide
  · have : n.log2 < 16 := (Nat.log2_lt h0).mpr (by omega)
    omega
theorem canShow_runs : ∀ {r : Runs}, (∀ p ∈ r, p.1 < 65536 ∧ p.2 < 65536) → PyData.showableAll (r.map runD) = true
  | [], _ => rfl
  | p :: r, h => by
    have b := h p List.mem_cons_self
    rw [List.map_cons, PyData.showableAll, canShow_runs fun q hq => h q (List.mem_cons_of_mem _ hq), Bool.and_true]
    unfold runD
    simp only [PyData.showable, PyData.showableAll, Bool.and_true]
    have h1 := canShow_int b.1
    have h2 := canShow_int b.2
    simp only [PyData.showable] at h1 h2
    rw [h1, h2]
    rfl
theorem canShow_row {R : Bfb.Row} (h : Ok R) : (rowD R).showable = true := by
  have h1 := canShow_runs (ok_small h)
  have h2 := canShow_int h.en
  simp only [rowD, runsD, PyData.showable, PyData.showableAll, Bool.and_true] at h2 ⊢
  rw [h1, h2]
  rfl
theorem row_depth (R : Bfb.Row) : (rowD R).depth ≤ 4 := by
  have h1 := depth_runs R.1
  simp only [rowD, runsD, PyData.depth, PyData.depthAll]
  omega
theorem tab_shows {ks : List (Nat × Nat)} {f : Nat × Nat → Bfb.Row} (hk : ∀ k ∈ ks, k.1 < 100 ∧ k.2 < 100) (hf : ∀ k ∈ ks, Ok (f k)) (hz : ks.length ≤ 3) :
    (tabD (tabOf ks f)).showable = true ∧ (tabD (tabOf ks f)).shown.length ≤ sizeLine ∧ (tabD (tabOf ks f)).depth ≤ 64 := by
  refine ⟨?_, ?_, ?_⟩
  · unfold tabD tabOf
    simp only [PyData.showable]
    clear hz
    induction ks with
    | nil => rfl
    | cons k ks ih =>
      rw [List.map_cons, List.map_cons, PyData.showableKv, ih (fun l hl => hk l (List.mem_cons_of_mem _ hl)) fun l hl => hf l (List.mem_cons_of_mem _ hl), Bool.and_true, canShow_row (hf k List.mem_cons_self), Bool.and_true]
      have b := hk k List.mem_cons_self
      have h1 := canShow_int (n := k.1) (by omega)
      have h2 := canShow_int (n := k.2) (by omega)
      show (PyData.tuple [.int (k.1 : Nat), .int (k.2 : Nat)]).showable = true
      simp only [PyData.showable, PyData.showableAll, Bool.and_true] at h1 h2 ⊢
      rw [h1, h2]
      rfl
  · rw [len_tl, tl_tab]
    have a := joinL_len 520 (ks.map fun k => runT k ++ 58 :: 32 :: rowT (f k)) fun p hp => by
      obtain ⟨k, h, rfl⟩ := List.mem_map.mp hp
      have b := hk k h
      have c := runT_len (p := k) (by omega) (by omega)
      have d := rowT_len (hf k h)
      simp only [List.length_append, List.length_cons]
      omega
    rw [List.length_map] at a
    have : ks.length * (520 + 2) ≤ 3 * 522 := Nat.mul_le_mul hz (Nat.le_refl _)
    simp only [List.length_cons, List.length_append, List.length_nil]
    rw [sizeLine_eq]
    omega
  · unfold tabD tabOf
    simp only [PyData.depth]
    have : PyData.depthKv ((ks.map fun k => (kyN k, rowD (f k))).map fun p => (keyD p.1, p.2)) ≤ 4 := by
      clear hz hk hf
      induction ks with
      | nil => exact Nat.zero_le _
      | cons k ks ih =>
        rw [List.map_cons, List.map_cons, PyData.depthKv]
        have h1 : (keyD (kyN k)).depth ≤ 4 := by
          show (PyData.tuple [.int (k.1 : Nat), .int (k.2 : Nat)]).depth ≤ 4
          simp [PyData.depth, PyData.depthAll]
        have h2 := row_depth (f k)
        simp only at h1 h2 ⊢
        omega
    omega
theorem hand_shows {b : Nat} {x : R3} (h1 : 1 ≤ b) (h3 : b ≤ 3) (hf : ∀ k ∈ pairsOf b, Ok (atR x k)) : (handD b x).showable = true ∧ noL (handD b x) = true ∧ (handD b x).shown.length ≤ sizeLine ∧ (handD b x).depth ≤ 64 := by
  have hk : ∀ k ∈ pairsOf b, k.1 < 100 ∧ k.2 < 100 := fun k hk => by rcases pairs_in h1 h3 k hk with rfl | rfl | rfl <;> decide
  have hz := pairs_n h1 h3
  unfold handD
  generalize pairsOf b = ks at *
  refine ⟨?_, ?_, ?_, ?_⟩
  · simp only [PyData.showable]
    clear hz
    induction ks with
    | nil => rfl
    | cons k ks ih =>
      rw [List.map_cons, PyData.showableAll, ih (fun l hl => hf l (List.mem_cons_of_mem _ hl)) fun l hl => hk l (List.mem_cons_of_mem _ hl), Bool.and_true]
      have b := hk k List.mem_cons_self
      have h1 := canShow_int (n := k.1) (by omega)
      have h2 := canShow_int (n := k.2) (by omega)
      have h3 := canShow_row (hf k List.mem_cons_self)
      show PyData.showableAll [.int (k.1 : Nat), .int (k.2 : Nat), rowD (atR x k)] = true
      rw [PyData.showableAll, PyData.showableAll, PyData.showableAll, h1, h2, h3]
      rfl
  · refine noLs_all fun d hd => ?_
    obtain ⟨k, _, rfl⟩ := List.mem_map.mp hd
    show (true && (true && (noL (rowD _) && true))) = true
    rw [noRow]; rfl
  · rw [len_tl]
    simp only [PyData.shown]
    have sa : ∀ l : List PyData, PyData.shownAll l = l.map PyData.shown := fun l => by
      induction l with
      | nil => rfl
      | cons d l ih => rw [PyData.shownAll, List.map_cons, ih]
    have a := tupleText_len (PyData.shownAll (ks.map fun k => .tuple [.int (k.1 : Nat), .int (k.2 : Nat), rowD (atR x k)])) 1600 fun t ht => by
      rw [sa, List.map_map] at ht
      obtain ⟨k, hkk, rfl⟩ := List.mem_map.mp ht
      have b := hk k hkk
      show (tl (PyData.tuple [.int (k.1 : Nat), .int (k.2 : Nat), rowD (atR x k)]).shown).length ≤ _
      simp only [PyData.shown]
      refine Nat.le_trans (tupleText_len _ 510 fun t ht => ?_) (by rw [sa]; simp)
      rw [sa] at ht
      simp only [List.map_cons, List.map_nil, List.mem_cons, List.not_mem_nil, or_false] at ht
      rcases ht with rfl | rfl | rfl
      · rw [tl_int]
        have := num_len (n := k.1) (by omega)
        omega
      · rw [tl_int]
        have := num_len (n := k.2) (by omega)
        omega
      · rw [tl_row]
        have := rowT_len (hf k hkk)
        omega
    rw [sa, List.length_map, List.length_map] at a
    have : ks.length * (1600 + 2) ≤ 3 * 1602 := Nat.mul_le_mul hz (Nat.le_refl _)
    rw [sizeLine_eq, sa]
    omega
  · simp only [PyData.depth]
    have : PyData.depthAll (ks.map fun k => .tuple [.int (k.1 : Nat), .int (k.2 : Nat), rowD (atR x k)]) ≤ 6 := by
      clear hz hk hf
      induction ks with
      | nil => exact Nat.zero_le _
      | cons k ks ih =>
        rw [List.map_cons, PyData.depthAll]
        have h2 := row_depth (atR x k)
        have : (PyData.tuple [.int (k.1 : Nat), .int (k.2 : Nat), rowD (atR x k)]).depth ≤ 6 := by
          simp only [PyData.depth, PyData.depthAll]
          omega
        omega
    omega
/-! ### promises that ask the guards -/
structure FnG (P : Program) (w : World) (K : PySem.W.Frag) (mg : Str → Option Value) (base : Heap) (k : Nat) (f : Addr) (fd : FuncData) (ps : List Str) (sp : Sp) : Prop where
  len : ∀ vs H Q E, sp vs H Q E → vs.length = ps.length
  run : ∀ (A : Around) (outer : List Env) (s : Shared) (H : Hp) (args : Args) (us : List Value) (vs : List V) (Q : VK) (E : XK), A.guards = some [] → Room k A → Env0 P w K mg base A outer s H → BindsTo s fd args (ps.zip us) → Vals vs us → sp vs H Q E →
    codeAny (model P w) A (.call (.ref f) args) (CR CX0 outer P w H s Q E) s
structure DfG (P : Program) (w : World) (K : PySem.W.Frag) (mg : Str → Option Value) (base : Heap) (x : Str) (k : Nat) (ps : List Str) (sp : Sp) : Prop where
  ok : ∃ (f : Addr) (fd : FuncData), FnG P w K mg base k f fd ps sp ∧ mg x = some (.ref f) ∧ PySem.W.keepIn K (.ref f) = true ∧ Binds K fd ps []
theorem pe_dfG {X : Cx} {x : Str} {k : Nat} {ps : List Str} {sp : Sp} {e : Expr} {es : List Expr} {t : TA} {p pos : Pos} (D : DfG X.prog X.w X.K X.mg X.base x k ps sp) (hgd : X.A.guards = some []) (hr : Room k X.A) (hg : Gl X x) (ha : PA X (e :: es) t) (hdb : (x == ("__debug__" : Str)) = false := by decide)
    (he : starEach (e :: es) X.env = (false, eval e X.env) :: starEach es X.env := by rfl) (hpl : (backTo pos (starEach es X.env)).any (·.1) = false := by rfl) : PE X (.Call (.Name x p) (e :: es) [] pos) (tCall sp [] E0 t) := by
  obtain ⟨f, fd, F, hm, hk, hb⟩ := D.ok
  refine ⟨fun pins s σ H Q I h => ?_⟩
  refine wpAny_Call_Name_kw (ld_glob I hg hm ?_ hdb)
  refine PySem.W.callWith_K (h₀ := X.base) I.ok.mod.kin hk (thn (ha.run pos pins s σ H _ I h) fun us s1 ⟨vs, H1, I1, r, q⟩ => ⟨I1.kIn, ?_⟩) he hpl
  have q : sp (vs ++ []) H1 Q E0 := q
  have r2 : Vals (vs ++ []) (us ++ []) := r.append .nil
  have hl : (us ++ []).length = ps.length := by rw [← r2.length]; exact F.len _ _ _ _ q
  refine wpAny_call (codeAny_mono (F.run X.A X.stack s1 H1 ⟨us, []⟩ (us ++ []) (vs ++ []) Q E0 hgd hr I1.env0 (hb s1 us I1.kIn hl) r2 q) fun r s' hq => ?_)
  cases r with
  | error e => exact hq.elim
  | ok fl =>
    cases fl with
    | ret u => exact I1.after hq
    | next => exact False.elim hq
    | brk => exact False.elim hq
    | cont => exact False.elim hq
section
variable {P : Program} {w : World} {K : PySem.W.Frag} {mg : Str → Option Value} {base : Heap} {x : Str} {st : Stmt} {N ps : List Str} {k : Nat}
theorem fn_G {f : Addr} {fd : FuncData} {sp : Sp} (F : Fun K x x st f fd) (S : FnScope N ps (defScope st)) (len : ∀ vs H Q E, sp vs H Q E → vs.length = ps.length)
    (body : ∀ (cdv : Value) (A : Around) (outer : List Env) (s : Shared) (H : Hp) (vs : List V) (Q : VK) (E : XK), (A.deeper (envOfC x (defScope st) s.heap.objs.size f cdv)).guards = some [] → Room k (A.deeper (envOfC x (defScope st) s.heap.objs.size f cdv)) → sp vs H Q E →
      ∃ t, PSs (cxOf CX0 P w K mg base N x (defScope st) f cdv A outer s H E).nox (defBody st) t ∧ t { nx := fun _ H' => Q .non H', rt := Q } (start N vs) H) : FnG P w K mg base (k + 1) f fd ps sp := by
  obtain ⟨oc, od, kV, doc, pm, an, cdv, ct, osl, rfl, lk, hcd⟩ := F.ex
  refine ⟨len, fun A outer s H args us vs Q E hgd hr e0 hb r hsp => ?_⟩
  refine LamX.run_ofS (N := N) (ps := ps) lk hcd S hr e0 hb r (len _ _ _ _ hsp) fun hr' => ?_
  obtain ⟨t, ht, hq⟩ := body cdv A outer s H vs Q E hgd hr' hsp
  exact ⟨t, ht.nox, hq⟩
theorem d_pureG {R : List PyData → PyData → Prop} (F : Fd K mg x st) (S : FnScope N ps (defScope st))
    (bd : ∀ (kV doc pm : Value) (an : Option Addr) (cdv ct : Value) (us : List Value), us.length = ps.length → bindArgs (PySem.W.fnOf x x (defArgs st) (defBody st) (defScope st) .none kV doc pm an cdv ct) ⟨us, []⟩ = pure (ps.zip us))
    (len : ∀ ds d, R ds d → ds.length = ps.length)
    (body : ∀ (f : Addr) (cdv : Value) (A : Around) (outer : List Env) (s : Shared) (H : Hp) (vs : List V) (ds : List PyData) (d : PyData) (Q : VK) (E : XK), (A.deeper (envOfC x (defScope st) s.heap.objs.size f cdv)).guards = some [] → Room k (A.deeper (envOfC x (defScope st) s.heap.objs.size f cdv)) → DpAll K H vs ds → R ds d →
      (∀ v H', Ex H H' → Dp K H' v d → Q v H') →
      ∃ t, PSs (cxOf CX0 P w K mg base N x (defScope st) f cdv A outer s H E).nox (defBody st) t ∧ t { nx := fun _ H' => Q .non H', rt := Q } (start N vs) H) : DfG P w K mg base x (k + 1) ps (spP K R) := by
  obtain ⟨f, fd, F, hm⟩ := F.ex
  exact ⟨f, fd, fn_G F S (fun vs H Q E ⟨ds, d, h1, h2, _⟩ => (dpa_len h1).trans (len ds d h2)) fun cdv A outer s H vs Q E hgd hr ⟨ds, d, h1, h2, q⟩ => body f cdv A outer s H vs ds d Q E hgd hr h1 h2 q, hm, F.kp, F.binds bd⟩
end
end Bw
end
section
set_option Elab.async false
set_option linter.all false
set_option maxRecDepth 100000
set_option maxHeartbeats 8000000
namespace Bw
open PySem PySem.Spec PyProof.Rows L2 Bfb
local macro_rules | `(tactic| walk_at "ex") => `(tactic| first
  | assumption
  | exact Ex.refl _
  | (refine Ex.trans ?_ (by assumption); walk_at "ex"))
local macro_rules | `(tactic| walk_at "om") => `(tactic| first | omega | assumption | (left; constructor <;> omega) | (right; constructor <;> omega) | decide)
local macro_rules | `(tactic| walk_at "ln") => `(tactic| first | decide | (simp only [List.length_cons, List.length_nil, List.length_append, List.length_map]; omega))
local macro_rules | `(tactic| walk_at "rd") => `(tactic| first
  | with_reducible exact rd_plus
  | with_reducible exact rd_sub
  | with_reducible exact rd_lt
  | with_reducible exact rd_le
  | with_reducible exact rd_gt
  | with_reducible exact rd_ge
  | with_reducible exact rd_eqI
  | with_reducible exact rd_neI
  | ((with_reducible apply rd_eqD); rfl; rfl)
  | ((with_reducible apply rd_neD); rfl; rfl)
  | ((with_reducible apply rd_mul); walk_at "om")
  | ((with_reducible apply rd_div); walk_at "om"; walk_at "om")
  | ((with_reducible apply rd_mod); walk_at "om")
  | ((with_reducible apply rd_divW); walk_at "om"; walk_at "om")
  | ((with_reducible apply rd_ixT); rfl)
  | ((with_reducible apply rd_ixL); rfl)
  | with_reducible exact rd_isNi
  | with_reducible exact rd_isNn
  | with_reducible exact rd_isNt
  | with_reducible exact rd_notNn)
local macro_rules | `(tactic| walk_at "ev") => `(tactic| first
  | with_reducible exact evd_int
  | ((with_reducible apply evd_varI); rfl)
  | ((with_reducible apply evd_varB); rfl)
  | ((with_reducible apply evd_var); rfl; assumption; walk_at "ex")
  | with_reducible exact evd_bl
  | with_reducible exact evd_non
  | with_reducible exact evd_str
  | ((with_reducible apply evd_op); walk_at "ev"; walk_at "ev"; walk_at "rd")
  | ((with_reducible apply evd_tup); walk_at "ea"; walk_at "ln")
  | ((with_reducible apply evd_lst); walk_at "ea"; walk_at "ln")
  | ((with_reducible apply evd_isInt); walk_at "ev")
  | ((with_reducible apply evd_isBool); walk_at "ev")
  | ((with_reducible apply evd_isTuple); walk_at "ev")
  | ((with_reducible apply evd_cb); walk_at "ea"; walk_at "rc")
  | with_reducible exact evd_neg1
  | ((with_reducible apply evd_notV); walk_at "ev")
  | ((with_reducible apply evd_call); walk_at "ea"; assumption))
local macro_rules | `(tactic| walk_at "ea") => `(tactic| first
  | with_reducible exact evda_nil
  | ((with_reducible apply evda_cons); walk_at "ev"; walk_at "ea")
  | ((with_reducible apply evda_starT); walk_at "ev"; walk_at "ea")
  | ((with_reducible apply evda_starL); walk_at "ev"; walk_at "ea"))
local macro_rules | `(tactic| walk_at "rc") => `(tactic| first
  | with_reducible exact rc_len
  | with_reducible exact rc_lenT
  | with_reducible exact rc_tupL
  | with_reducible exact rc_tupT
  | with_reducible exact rc_listL
  | with_reducible exact rc_listT
  | with_reducible exact rc_min2
  | with_reducible exact rc_max2
  | with_reducible exact rc_int1
  | with_reducible exact rc_abs
  | with_reducible exact rc_all
  | with_reducible exact rc_sum)
local macro_rules | `(tactic| walk_at "et") => `(tactic| first
  | ((with_reducible apply et_test (K := ‹PySem.W.Frag›)); walk_at "ev")
  | ((with_reducible apply et_B (K := ‹PySem.W.Frag›)); walk_at "ev")
  | ((with_reducible apply et_not); walk_at "et"))

variable {P : Program} {w : World} {K : PySem.W.Frag} {mg : Str → Option Value} {base : Heap}
theorem room66 {k : Nat} {A : Around} (r : Room k A) : A.units + 66 < cLine := by have := r.un; omega
section
variable {σ : L2.St} {H : Hp} {te ta tb : TE} {a : Addr} {i : Nat} {tab : List (TK × PyData)} {x y : Str}
theorem evd_reprT (hv : σ[i]? = some (some (.ref a))) (t : Tab K H a tab) (n : ∀ p ∈ tab, noL p.2 = true) (h : (tabD tab).showable = true ∧ (tabD tab).shown.length ≤ sizeLine ∧ (tabD tab).depth ≤ 64) :
    EvD K (tCB (rRepr K) (tCons (tVar i) tNil)) σ H (.str (tabD tab).shown) := fun H1 g Q q =>
  ⟨_, hv, a, rfl, .inr ⟨tab, t.mono g, n, h.1, h.2.1, h.2.2, q _ H1 (Ex.refl _) (.str _)⟩⟩
theorem evd_reprD {d : PyData} (he : EvD K te σ H d) (hr : ∃ ds, d = .tuple ds) (h : d.showable = true ∧ noL d = true ∧ d.shown.length ≤ sizeLine ∧ d.depth ≤ 64) : EvD K (tCB (rRepr K) (tCons te tNil)) σ H (.str d.shown) := fun H1 g Q q =>
  he H1 g _ fun v H2 g2 dv => by
    obtain ⟨ds, rfl⟩ := hr
    obtain ⟨a, xs, rfl, h1, h2⟩ := dp_tup dv
    exact ⟨a, rfl, .inl ⟨_, dv, h.1, h.2.1, h.2.2.1, h.2.2.2, q _ H2 g2 (.str _)⟩⟩
theorem et_strEq (ha : EvD K ta σ H (.str x)) (hb : EvD K tb σ H (.str y)) : EvT (tTest (tOp rEq ta tb)) σ H (decide (x = y)) := fun H1 g Q q =>
  ha H1 g _ fun v H2 g2 dv => hb H2 (g.trans g2) _ fun u H3 g3 du => by
    cases dp_str dv
    cases dp_str du
    have : decide (V.str x = V.str y) = decide (x = y) := decide_eq_decide.mpr ⟨fun z => by injection z, fun z => by rw [z]⟩
    exact ⟨rfl, _, rfl, by rw [this]; exact q H3 (g2.trans g3)⟩
theorem et_strNe (ha : EvD K ta σ H (.str x)) (hb : EvD K tb σ H (.str y)) : EvT (tTest (tOp rNe ta tb)) σ H (!decide (x = y)) := fun H1 g Q q =>
  ha H1 g _ fun v H2 g2 dv => hb H2 (g.trans g2) _ fun u H3 g3 du => by
    cases dp_str dv
    cases dp_str du
    have : decide (V.str x = V.str y) = decide (x = y) := decide_eq_decide.mpr ⟨fun z => by injection z, fun z => by rw [z]⟩
    exact ⟨rfl, _, rfl, by rw [this]; exact q H3 (g2.trans g3)⟩
end
theorem put_new {ks : List (Nat × Nat)} (hn : ks.Nodup) {i : Nat} {k : Nat × Nat} (h : ks[i]? = some k) (f : Nat × Nat → Bfb.Row) : putT (tabOf (ks.take i) f) (kyN k) (rowD (f k)) = tabOf (ks.take (i + 1)) f := by
  unfold putT
  rw [if_neg, take_snoc h]
  · unfold tabOf
    rw [List.map_append]
    rfl
  · intro z
    obtain ⟨p, hp, e⟩ := List.any_eq_true.mp z
    have e := of_decide_eq_true e
    obtain ⟨u, hu, rfl⟩ := List.mem_map.mp hp
    have e : u = k := kyN_inj e
    subst e
    obtain ⟨j, hj⟩ := List.mem_iff_getElem?.mp hu
    have hji : j < i := by
      have := (List.getElem?_eq_some_iff.mp hj).1
      rw [List.length_take] at this
      omega
    rw [List.getElem?_take_of_lt hji] at hj
    obtain ⟨l1, g1⟩ := List.getElem?_eq_some_iff.mp hj
    obtain ⟨l2, g2⟩ := List.getElem?_eq_some_iff.mp h
    exact List.pairwise_iff_getElem.mp hn j i l1 l2 hji (g1.trans g2.symm)
abbrev s_law_handed : Stmt := topS 55
abbrev N_law_handed : List Str := ["_law_bodies", "_law_accords_here", "_law_pairs", "_law_found", "_law_i", "_law_j", "_law_one", "_law_other", "_law_count", "_law_turn", "_law_before", "_law_k", "_law_more"]
theorem sc_law_handed : FnScope N_law_handed ["_law_bodies", "_law_accords_here"] (defScope s_law_handed) := ⟨rfl, rfl, rfl, by decide +kernel, rfl, by decide +kernel, by decide +kernel⟩
def R_lhanded (ds : List PyData) (d : PyData) : Prop := ∃ (b : Nat) (as : List (Nat × Nat × Nat)), HandPre b as ∧ ds = [.int b, .list (as.map accD)] ∧ d = handD b (finB b as)
theorem d_law_handed (F : Fd K mg "_law_handed" s_law_handed) (B : Nm mg) (D_law_closing : Df P w K mg base "_law_closing" 1 ["_law_counts"] (spP K R_lclosing)) (D_law_both : Df P w K mg base "_law_both" 2 ["_law_one", "_law_other"] (spP K R_lboth)) (D_law_starts : Df P w K mg base "_law_starts" 1 ["_law_falling"] (spP K R_lstarts)) : DfG P w K mg base "_law_handed" 3 ["_law_bodies", "_law_accords_here"] (spP K R_lhanded) := by
  refine d_pureG F sc_law_handed (fun _ _ _ _ _ _ us hl => match us, hl with | [_, _], _ => rfl) (by rintro _ _ ⟨b, as, hp, rfl, rfl⟩; rfl) fun f cdv A outer s H vs ds d Q E hgd hr hds hR k => ?_
  have hu66 := room66 hr
  have hu64 := hr.units
  have hu65 := room65 hr
  have hu1 := room1 hr
  obtain ⟨b, as, hp, rfl, rfl⟩ := hR
  obtain ⟨v0, v1, rfl, h0, h1⟩ := dpa2 hds
  cases dp_int h0
  refine ⟨_, (pss_cons (ps_set (i := 2) sc_law_handed.nd rfl (.inl rfl) (pe_slice (sl_K (K := K) rfl) (pe_lst (pa_cons (pe_tup (pa_cons pe_int (pa_cons pe_int pa_nil))) (pa_cons (pe_tup (pa_cons pe_int (pa_cons pe_int pa_nil))) (pa_cons (pe_tup (pa_cons pe_int (pa_cons pe_int pa_nil))) pa_nil)))) po_none (po_some (pe_ix (ix_K (K := K) rfl) (pe_lst (pa_cons pe_int (pa_cons pe_int (pa_cons pe_int (pa_cons pe_int pa_nil))))) (pv 0) (fun _ _ => rfl)))))
      (pss_cons (ps_set (i := 3) sc_law_handed.nd rfl (.inr rfl) pe_dnewT)
      (pss_cons (ps_for PassesOwn.never rfl (pi_seqK (K := K) rfl (pv 2)) (pg_tupK (K := K) (n := 2) rfl rfl (pgs_cons (pg_name (i := 4) sc_law_handed.nd rfl (.inr rfl)) (pgs_cons (pg_name (i := 5) sc_law_handed.nd rfl (.inr rfl)) pgs_nil))) (pss_one (ps_dput hu1 (pv 3) (pe_tup (pa_cons (pv 4) (pa_cons (pv 5) pa_nil))) (pe_df D_law_closing (hr.mono (by decide)) (by rfl) (pa_cons (pe_lc (own := [("_law_one", 6), ("_law_other", 7), ("_law_count", 8)]) rfl sc_law_handed.nd (pi_seqK (K := K) rfl (pv 1)) (blkOk_by (own := [("_law_one", 6), ("_law_other", 7), ("_law_count", 8)]) (N := N_law_handed) (sc := defScope s_law_handed) (by decide +kernel)) (fun _ _ _ _ _ => (pg_tupK (K := K) (n := 3) rfl rfl (pgs_cons (pg_name (i := 6) sc_law_handed.nd rfl (.inl rfl)) (pgs_cons (pg_name (i := 7) sc_law_handed.nd rfl (.inl rfl)) (pgs_cons (pg_name (i := 8) sc_law_handed.nd rfl (.inl rfl)) pgs_nil))))) (fun _ _ _ _ _ => pts_one (pt_cmpR (op_inTT (K := K) hu65 rfl) (pe_tup (pa_cons (pv 6) (pa_cons (pv 7) pa_nil))) (pe_tup (pa_cons (pe_tup (pa_cons (pv 4) (pa_cons (pv 5) pa_nil))) (pa_cons (pe_tup (pa_cons (pv 5) (pa_cons (pv 4) pa_nil))) pa_nil))) (by rfl))) (fun _ _ _ _ _ => (pv 8))) pa_nil)) rfl)))
      (pss_cons (ps_for PassesOwn.never rfl (pi_range1 (by rfl) B.range (pa_cons (pe_ifExp (pt_cmpR (op_eqK (K := K) hu64 rfl) (pv 0) pe_int (nomark _)) pe_int pe_int) pa_nil)) (pg_name (i := 9) sc_law_handed.nd rfl (.inl rfl)) (pss_cons (ps_set (i := 10) sc_law_handed.nd rfl (.inl rfl) (pe_callB (cr_repr (K := K) rfl hgd hu66) (by rfl) B.repr (by decide +kernel) (pa_cons (pv 3) pa_nil)))
      (pss_cons (ps_for PassesOwn.never rfl (pi_seqK (K := K) rfl (pv 2)) (pg_tupK (K := K) (n := 2) rfl rfl (pgs_cons (pg_name (i := 4) sc_law_handed.nd rfl (.inr rfl)) (pgs_cons (pg_name (i := 5) sc_law_handed.nd rfl (.inr rfl)) pgs_nil))) (pss_cons (ps_set (i := 11) sc_law_handed.nd rfl (.inl rfl) (pe_op op_sub (pe_op op_sub pe_int (pv 4)) (pv 5)))
      (pss_cons (ps_set (i := 12) sc_law_handed.nd rfl (.inl rfl) (pe_df D_law_both (hr.mono (by decide)) (by rfl) (pa_cons (pe_dget hu1 (pv 3) (pe_tup (pa_cons (pe_callB (call_min2 rfl) (by rfl) B.min (by decide +kernel) (pa_cons (pv 4) (pa_cons (pv 11) pa_nil))) (pa_cons (pe_callB (call_max2 rfl) (by rfl) B.max (by decide +kernel) (pa_cons (pv 4) (pa_cons (pv 11) pa_nil))) pa_nil))) (fun _ _ => rfl)) (pa_cons (pe_dget hu1 (pv 3) (pe_tup (pa_cons (pe_callB (call_min2 rfl) (by rfl) B.min (by decide +kernel) (pa_cons (pv 5) (pa_cons (pv 11) pa_nil))) (pa_cons (pe_callB (call_max2 rfl) (by rfl) B.max (by decide +kernel) (pa_cons (pv 5) (pa_cons (pv 11) pa_nil))) pa_nil))) (fun _ _ => rfl)) pa_nil))))
      (pss_one (ps_dput hu1 (pv 3) (pe_tup (pa_cons (pv 4) (pa_cons (pv 5) pa_nil))) (pe_df D_law_closing (hr.mono (by decide)) (by rfl) (pa_cons (pe_op (op_plusK (K := K) rfl) (pe_df D_law_starts (hr.mono (by decide)) (by rfl) (pa_cons (pe_dget hu1 (pv 3) (pe_tup (pa_cons (pv 4) (pa_cons (pv 5) pa_nil))) (fun _ _ => rfl)) pa_nil)) (pe_df D_law_starts (hr.mono (by decide)) (by rfl) (pa_cons (pv 12) pa_nil))) pa_nil)) rfl)))))
      (pss_one (ps_if (pt_cmpR op_eq (pe_callB (cr_repr (K := K) rfl hgd hu66) (by rfl) B.repr (by decide +kernel) (pa_cons (pv 3) pa_nil)) (pv 10) (nomark _)) (pss_one ps_break) pss_nil)))))
      (pss_one (ps_ret (pe_callTy call_tuple_of (by rfl) B.tuple (by decide +kernel) (pa_cons (pe_lc (own := [("_law_i", 4), ("_law_j", 5)]) rfl sc_law_handed.nd (pi_seqK (K := K) rfl (pv 2)) (blkOk_by (own := [("_law_i", 4), ("_law_j", 5)]) (N := N_law_handed) (sc := defScope s_law_handed) (by decide +kernel)) (fun _ _ _ _ _ => (pg_tupK (K := K) (n := 2) rfl rfl (pgs_cons (pg_name (i := 4) sc_law_handed.nd rfl (.inl rfl)) (pgs_cons (pg_name (i := 5) sc_law_handed.nd rfl (.inl rfl)) pgs_nil)))) (fun _ _ _ _ _ => pts_nil) (fun _ _ _ _ _ => (pe_tup (pa_cons (pv 4) (pa_cons (pv 5) (pa_cons (pe_dget hu1 (pv 3) (pe_tup (pa_cons (pv 4) (pa_cons (pv 5) pa_nil))) (fun _ _ => rfl)) pa_nil)))))) pa_nil)))))))), ?_⟩
  try dsimp only [cxOf, Cx.nox, Cx.wish]
  have hb1 := hp.b1
  have hb3 := hp.b3
  have hal := hp.len
  have hnd := pairs_nodup hb1 hb3
  have hpn := pairs_n hb1 hb3
  have hks : ∀ k ∈ pairsOf b, k.1 < 100 ∧ k.2 < 100 := fun k hk => by rcases pairs_in hb1 hb3 k hk with rfl | rfl | rfl <;> decide
  have all := turns_all (told as 0 1) (told as 0 2) (told as 1 2) (hp.low 0 1 (by decide)) (hp.low 0 2 (by decide)) (hp.low 1 2 (by decide))
  have okS : ∀ t, ∀ k ∈ pairsOf b, Ok (atR (stB b (x0 as) t) k) := fun t k hk => by
    have : stB b (x0 as) t = stR (x0 as) t ∨ stB b (x0 as) t = stR (x0 as) 0 := by
      unfold stB
      by_cases e : b = 3
      · rw [if_pos e]; exact .inl rfl
      · rw [if_neg e]; exact .inr rfl
    rcases this with e | e
    · rw [e]
      obtain ⟨t', p, h⟩ := par_at (x0 as) t (pairs_in hb1 hb3 k hk) 0
      have h : atR (stR (x0 as) t) k = _ := h
      rw [h]
      exact (all.1 t' p).ok
    · rw [e]
      obtain ⟨t', p, h⟩ := par_at (x0 as) 0 (pairs_in hb1 hb3 k hk) 0
      have h : atR (stR (x0 as) 0) k = _ := h
      rw [h]
      exact (all.1 t' p).ok
  obtain ⟨n, hn, hcut⟩ : ∃ n : Nat, atI [PyData.int 0, .int 0, .int 1, .int 3] (b : Int) = some (.int (n : Nat)) ∧ cutD [pairD (0, 1), pairD (0, 2), pairD (1, 2)] none (some (n : Int)) = (pairsOf b).map pairD := by
    have : b = 1 ∨ b = 2 ∨ b = 3 := by omega
    rcases this with rfl | rfl | rfl
    · exact ⟨0, rfl, rfl⟩
    · exact ⟨1, rfl, rfl⟩
    · exact ⟨3, rfl, rfl⟩
  refine q_set K (d := .list ((pairsOf b).map pairD)) (evd_is (evd_slL (lo := none) (hi := some (n : Int)) (ds := [pairD (0, 1), pairD (0, 2), pairD (1, 2)]) (show EvD K _ _ _ (.list [.tuple [.int 0, .int 1], .tuple [.int 0, .int 2], .tuple [.int 1, .int 2]]) from by walk_at "ev") eo_none (eo_some (K := K) (evd_op (d := .list [.int 0, .int 0, .int 1, .int 3]) (by walk_at "ev") (by walk_at "ev") (rd_ixL hn)))) (by rw [hcut])) fun v2 H1 e1 d2 => ?_
  refine q_newT K fun fo H2 e2 nfo tf => ?_
  have hfo : H fo = none := fresh_ex e1 nfo
  have eH2 : Ex H H2 := by walk_at "ex"
  have d2' : Dp K H2 v2 (Seq true ((pairsOf b).map pairD)) := dp_ex e2 d2
  refine q_forV K (b := true) (ds := (pairsOf b).map pairD) rfl d2' ⟨fun i σ' H' => ∃ (x4 x5 : Option V), σ' = [some (.int (b : Nat)), some v1, some v2, some (.ref fo), x4, x5, none, none, none, none, none, none, none] ∧ Bts [fo] H2 H' ∧
      Tab K H' fo (tabOf ((pairsOf b).take i) (atR (x0 as))), ⟨none, none, rfl, Bts.refl, tf⟩, fun i σ' H' ⟨_, _, _, bb, _⟩ => dpl_tab tf bb (noP _) d2', ?_, ?_⟩
  · rintro i d x σ' H' hi dx ⟨x4, x5, rfl, bb, tf'⟩
    obtain ⟨kk, hk, rfl⟩ : ∃ p, (pairsOf b)[i]? = some p ∧ pairD p = d := by
      rw [List.getElem?_map] at hi
      cases hp : (pairsOf b)[i]? with
      | none => rw [hp] at hi; cases hi
      | some p => rw [hp] at hi; exact ⟨p, rfl, Option.some.inj hi⟩
    obtain ⟨k1, k2, k12, k3, kb2⟩ := pairs_at hb1 hb3 hk
    have hkm := List.mem_of_getElem? hk
    refine g_two (d := .int (kk.1 : Nat)) (e := .int (kk.2 : Nat)) dx fun y z dy dz => ?_
    cases dp_int dy
    cases dp_int dz
    have h1' : Dp K H' v1 (.list (as.map accD)) := dp_ex (ex_bts eH2 bb hfo) h1
    refine s_putT K (i := 3) (x := (kk.1 : Nat)) (y := (kk.2 : Nat)) (d := rowD (clRow (told as kk.1 kk.2))) rfl tf' (no_tabOf _ _) (noRow _) (by rw [len_tabOf, List.length_take]; omega)
      (evd_call (ds := [.list ((told as kk.1 kk.2).map intN)]) (evda_cons (evd_is (evd_lcI (b := true) accD as (fun a => decide ((a.1 = kk.1 ∧ a.2.1 = kk.2) ∨ (a.1 = kk.2 ∧ a.2.1 = kk.1))) (fun a => intN a.2.2) (show EvD K _ _ _ (.list (as.map accD)) from by walk_at "ev") (by omega) (fun _ _ _ => rfl) fun a ha => ?_) (by unfold told; rw [List.map_map]; rfl)) evda_nil) ⟨_, by have := told_len as kk.1 kk.2; omega, fun c hc => ?_, rfl, rfl⟩) (by walk_at "ea") fun H3 b3 tf3 => ?_
    · obtain ⟨p, q, c⟩ := a
      refine lct_three (fun v u t => rfl) fun v u t H1 e dv du dt => ?_
      cases dp_int dv
      cases dp_int du
      cases dp_int dt
      refine ⟨et_test (evd_is (evd_op (d := .tuple [.int (p : Nat), .int (q : Nat)]) (e := .tuple [.tuple [.int (kk.1 : Nat), .int (kk.2 : Nat)], .tuple [.int (kk.2 : Nat), .int (kk.1 : Nat)]]) (by walk_at "ev") (by walk_at "ev") (rd_inTT rfl rfl)) ?_), fun _ => show EvD K _ _ _ (.int (c : Nat)) from by walk_at "ev"⟩
      congr 1
      show ((((kk.1 : Int) == (p : Int)) && ((((kk.2 : Int) == (q : Int)) && true))) || ((((kk.2 : Int) == (p : Int)) && (((kk.1 : Int) == (q : Int)) && true)) || false)) = decide ((p = kk.1 ∧ q = kk.2) ∨ (p = kk.2 ∧ q = kk.1))
      rw [Bool.eq_iff_iff]
      simp
      omega
    · have := hp.low _ _ k12 c hc
      have : (2 : Nat) ^ 30 = 1073741824 := by decide
      omega
    · refine ⟨some (.int (kk.1 : Nat)), some (.int (kk.2 : Nat)), rfl, bb.trans b3, ?_⟩
      rw [x0_at (as := as) (pairs_in hb1 hb3 kk hkm), show ky ((kk.1 : Nat) : Int) ((kk.2 : Nat) : Int) = kyN kk from rfl, put_new hnd hk] at tf3
      exact tf3
  rintro σ' H' ⟨x4, x5, rfl, bb, tf'⟩
  rw [List.length_map, List.take_length] at tf'
  have fin : ∀ (x4 x5 x9 x10 x11 x12 : Option V) (H3 : Hp), Bts [fo] H2 H3 → (∀ t : R3, (∀ k ∈ pairsOf b, atR t k = atR (finB b as) k) → Tab K H3 fo (tabOf (pairsOf b) (atR t)) →
      tRet (tCB (fun xs H Q => ∃ p ys, xs = [V.ref p] ∧ ((SqL K H p ys ∧ ∀ (l : Addr), H l = none → Q (V.ref l) (upd H l (HO.tup ys))) ∨ SqT K H p ys ∧ Q (V.ref p) H))
          (tCons (tLc (iSeq K (tVar 2)) (gTup K 2 (gCons (gName 4) (gCons (gName 5) gNil))) tYes (tTup (tCons (tVar 4) (tCons (tVar 5) (tCons (tDGet (tVar 3) (tTup (tCons (tVar 4) (tCons (tVar 5) tNil)))) tNil)))) (List.map (fun x => x.snd) [(Str.ofString "_law_i", 4), (Str.ofString "_law_j", 5)])) tNil))
        { nx := fun x H' => Q V.non H', rt := Q } [some (.int (b : Nat)), some v1, some v2, some (.ref fo), x4, x5, none, none, none, x9, x10, x11, x12] H3) := fun x4 x5 x9 x10 x11 x12 H3 b3 t hf t3 => by
    have d3 : Dp K H3 v2 (.list ((pairsOf b).map pairD)) := dpl_tab tf b3 (noP _) d2'
    refine s_ret K (d := handD b (finB b as)) (evd_is (evd_cb (evda_cons (evd_lcI (b := true) pairD (pairsOf b) (fun _ => true) (fun k => .tuple [.int (k.1 : Nat), .int (k.2 : Nat), rowD (atR (finB b as) k)]) (show EvD K _ _ _ (.list ((pairsOf b).map pairD)) from by walk_at "ev") (by omega) (fun k hk _ => ?_) fun k hk => ?_) evda_nil) rc_tupL) (by rw [filter_yes]; rfl)) fun v H6 e6 dv => k v H6 ((ex_bts eH2 b3 hfo).trans e6) dv
    · show (true && (true && (noL (rowD _) && true))) = true
      rw [noRow]; rfl
    · refine lct_two (fun v u => rfl) fun v u H7 e7 dv du => ⟨et_yes, fun _ => ?_⟩
      cases dp_int dv
      cases dp_int du
      exact evd_tup (evda_cons (by walk_at "ev") (evda_cons (by walk_at "ev") (evda_cons (evd_getT (tab := tabOf (pairsOf b) (atR t)) (x := (k.1 : Nat)) (y := (k.2 : Nat)) rfl (t3.mono e7) (by rw [lk_tabOf hnd hk, hf k hk]) (by walk_at "ea")) evda_nil))) (by walk_at "ln")
  by_cases e3 : b = 3
  case neg =>
    refine q_forR K (n := 0) (evda_cons (evd_if (b := false) (et_is (a := decide ((b : Int) = 3)) (by walk_at "et") (decide_eq_false (by omega))) (fun z => nomatch z) fun _ => d_int evd_int rfl) evda_nil) (by decide) fun H3 e4 => ⟨fun c σ' H' => σ' = [some (.int (b : Nat)), some v1, some v2, some (.ref fo), x4, x5, none, none, none, none, none, none, none] ∧ Bts [fo] H2 H' ∧ Tab K H' fo (tabOf (pairsOf b) (atR (x0 as))), ⟨rfl, bb.ex e4, tf'.mono e4⟩, fun c σ' H' hc => absurd hc (Nat.not_lt_zero _), ?_⟩
    rintro σ' H' ⟨rfl, bb, tf'⟩
    exact fin x4 x5 none none none none H' bb (x0 as) (fun k hk => by unfold finB stB; rw [if_neg e3]) tf'
  subst e3
  have hx3 : ∀ t, stB 3 (x0 as) t = stR (x0 as) t := fun t => if_pos rfl
  have rest : ∀ t, (∀ k ∈ pairsOf 3, atR (stR (x0 as) (t + 1)) k = atR (stR (x0 as) t) k) → ∀ k ∈ pairsOf 3, atR (stR (x0 as) (t + 1)) k = atR (finB 3 as) k := fun t h k hk => by
    have a0 := h (0, 1) (by decide)
    have a1 := h (0, 2) (by decide)
    have a2 := h (1, 2) (by decide)
    have fx : turnR (stR (x0 as) t) = stR (x0 as) t := Prod.ext a0 (Prod.ext a1 a2)
    have f14 : turnR (stR (x0 as) 14) = stR (x0 as) 14 := all.2.1
    unfold finB
    rw [hx3]
    rcases Nat.le_total t 14 with z | z
    · rw [fix_after fx (t + 1) (by omega), fix_after fx 14 z]
    · rw [fix_after f14 (t + 1) (by omega)]
  refine q_forR K (n := 60) (evda_cons (evd_if (b := true) (et_is (a := decide (((3 : Nat) : Int) = 3)) (by walk_at "et") rfl) (fun _ => d_int evd_int rfl) fun z => nomatch z) evda_nil) (by decide) fun H3 e4 => ⟨fun c σ' H' => ∃ (x4 x5 x9 x10 x11 x12 : Option V), σ' = [some (.int (3 : Nat)), some v1, some v2, some (.ref fo), x4, x5, none, none, none, x9, x10, x11, x12] ∧ Bts [fo] H2 H' ∧
    Tab K H' fo (tabOf (pairsOf 3) (atR (stR (x0 as) c))), ⟨x4, x5, none, none, none, none, rfl, bb.ex e4, tf'.mono e4⟩, ?_, ?_⟩
  case refine_2 =>
    rintro σ' H' ⟨x4, x5, x9, x10, x11, x12, rfl, bb, tf'⟩
    refine fin x4 x5 x9 x10 x11 x12 H' bb (stR (x0 as) 60) (fun k hk => ?_) tf'
    have f14 : turnR (stR (x0 as) 14) = stR (x0 as) 14 := all.2.1
    unfold finB
    rw [hx3, fix_after f14 60 (by decide)]
  rintro c σ' H' hc ⟨x4, x5, x9, x10, x11, x12, rfl, bb, tf'⟩
  have okc : ∀ t, ∀ k ∈ pairsOf 3, Ok (atR (stR (x0 as) t) k) := fun t k hk => by have := okS t k hk; rwa [hx3] at this
  refine q_set K (d := .str (tabD (tabOf (pairsOf 3) (atR (stR (x0 as) c)))).shown) (evd_reprT rfl tf' (no_tabOf _ _) (tab_shows hks (okc c) (by decide))) fun v10 H5 e5 d10 => ?_
  cases dp_str d10
  have tf5 := tf'.mono e5
  have b5 : Bts [fo] H2 H5 := bb.ex e5
  have d25 : Dp K H5 v2 (Seq true ((pairsOf 3).map pairD)) := dpl_tab tf b5 (noP _) d2'
  refine q_forV K (b := true) (ds := (pairsOf 3).map pairD) rfl d25 ⟨fun i σ' H' => ∃ (x4 x5 x11 x12 : Option V), σ' = [some (.int (3 : Nat)), some v1, some v2, some (.ref fo), x4, x5, none, none, none, some (.int (c : Nat)), some (.str (tabD (tabOf (pairsOf 3) (atR (stR (x0 as) c)))).shown), x11, x12] ∧ Bts [fo] H2 H' ∧
      Tab K H' fo (tabOf (pairsOf 3) (atR (parR (stR (x0 as) c) i))), ⟨x4, x5, x11, x12, rfl, b5, tf5⟩, fun i σ' H' ⟨_, _, _, _, _, bb, _⟩ => dpl_tab tf bb (noP _) d2', ?_, ?_⟩
  · rintro i d x σ' H' hi dx ⟨x4, x5, x11, x12, rfl, bb, tf'⟩
    obtain ⟨kk, hk, rfl⟩ : ∃ p, (pairsOf 3)[i]? = some p ∧ pairD p = d := by
      rw [List.getElem?_map] at hi
      cases hp : (pairsOf 3)[i]? with
      | none => rw [hp] at hi; cases hi
      | some p => rw [hp] at hi; exact ⟨p, rfl, Option.some.inj hi⟩
    obtain ⟨k1, k2, k12, k3, kb2⟩ := pairs_at hb1 hb3 hk
    have hkm := List.mem_of_getElem? hk
    refine g_two (d := .int (kk.1 : Nat)) (e := .int (kk.2 : Nat)) dx fun y z dy dz => ?_
    cases dp_int dy
    cases dp_int dz
    have hkne : 3 - kk.1 - kk.2 ≠ kk.1 ∧ 3 - kk.1 - kk.2 ≠ kk.2 := by rcases pairs_in (b := 3) (by decide) (by decide) kk hkm with rfl | rfl | rfl <;> decide
    refine q_set K (d := .int (3 - kk.1 - kk.2 : Nat)) (d_int (evd_op (evd_op (by walk_at "ev") (by walk_at "ev") rd_sub) (by walk_at "ev") rd_sub) (by rcases pairs_in (b := 3) (by decide) (by decide) kk hkm with rfl | rfl | rfl <;> rfl)) fun v11 H6 e6 d11 => ?_
    cases dp_int d11
    obtain ⟨_, l, m', be⟩ := beside hk k3 hkne.1 hkne.2
    have sms : ∀ l ∈ pairsOf 3, Small (atR (parR (stR (x0 as) c) i) l) := fun l hl => by
      obtain ⟨t', p, e⟩ := par_at (x0 as) c (pairs_in (b := 3) (by decide) (by decide) l hl) i
      rw [e]
      exact all.1 t' p
    have lc : Nat.lcm (atR (parR (stR (x0 as) c) i) l).2 (atR (parR (stR (x0 as) c) i) m').2 ≤ 576 := by
      obtain ⟨tl, pl, el⟩ := par_at (x0 as) c (pairs_in (b := 3) (by decide) (by decide) l be.il) i
      obtain ⟨tm, pm, em⟩ := par_at (x0 as) c (pairs_in (b := 3) (by decide) (by decide) m' be.im) i
      rw [el, em]
      exact all.2.2 tl tm pl pm
    have sk := sms kk hkm
    have sl := sms l be.il
    have sm := sms m' be.im
    have up := be.up (stR (x0 as) c)
    have bo : Ok (bothRow (atR (parR (stR (x0 as) c) i) l) (atR (parR (stR (x0 as) c) i) m')) := by
      refine ⟨(bothRow_row sl.v sm.v).ok, ?_, ?_⟩
      · have := bothRow_far sl.v sm.v
        have := sl.far
        have := sm.far
        omega
      · rw [bothRow_end sl.v sm.v]
        omega
    generalize hf : atR (parR (stR (x0 as) c) i) = f at *
    have tf6 := tf'.mono e6
    have lkl : lk (tabOf (pairsOf 3) f) (ky (min (kk.1 : Int) ((3 - kk.1 - kk.2 : Nat) : Int)) (max (kk.1 : Int) ((3 - kk.1 - kk.2 : Nat) : Int))) = some (rowD (f l)) := by rw [be.pl]; exact lk_tabOf hnd be.il
    have lkm : lk (tabOf (pairsOf 3) f) (ky (min (kk.2 : Int) ((3 - kk.1 - kk.2 : Nat) : Int)) (max (kk.2 : Int) ((3 - kk.1 - kk.2 : Nat) : Int))) = some (rowD (f m')) := by rw [be.pm]; exact lk_tabOf hnd be.im
    refine q_set K (d := rowD (bothRow (f l) (f m'))) (evd_call (ds := [rowD (f l), rowD (f m')]) (evda_cons (evd_getT (i := 3) rfl tf6 lkl (by walk_at "ea")) (evda_cons (evd_getT (i := 3) rfl tf6 lkm (by walk_at "ea")) evda_nil)) ⟨f l, f m', sl, sm, lc, rfl, rfl⟩) fun v12 H7 e7 d12 => ?_
    have tf7 := tf6.mono e7
    have ln1 : (startsR (f kk)).length ≤ 31 := by unfold startsR; rw [starts_len]; have := sk.ok.len; omega
    have ln2 : (startsR (bothRow (f l) (f m'))).length ≤ 31 := by unfold startsR; rw [starts_len]; have := bo.len; omega
    have bd : ∀ n ∈ startsR (f kk) ++ startsR (bothRow (f l) (f m')), n < 2 ^ 30 := fun n hn => by
      have : (2 : Nat) ^ 30 = 1073741824 := by decide
      rcases List.mem_append.mp hn with h | h
      · have := startsR_le sk.v n h
        have := sk.ok.far
        have := sk.ok.en
        omega
      · have := startsR_le bo.v n h
        have := bo.far
        have := bo.en
        omega
    refine s_putT K (i := 3) (x := (kk.1 : Nat)) (y := (kk.2 : Nat)) (d := rowD (clRow (startsR (f kk) ++ startsR (bothRow (f l) (f m'))))) rfl tf7 (no_tabOf _ _) (noRow _) (by rw [len_tabOf]; omega)
      (evd_call (ds := [.list ((startsR (f kk) ++ startsR (bothRow (f l) (f m'))).map intN)]) (evda_cons (evd_is (evd_op (d := .list ((startsR (f kk)).map intN)) (e := .list ((startsR (bothRow (f l) (f m'))).map intN)) (evd_call (ds := [rowD (f kk)]) (evda_cons (evd_getT (i := 3) (x := (kk.1 : Nat)) (y := (kk.2 : Nat)) rfl tf7 (lk_tabOf hnd hkm) (by walk_at "ea")) evda_nil) ⟨f kk, sk.ok, rfl, rfl⟩) (evd_call (ds := [rowD (bothRow (f l) (f m'))]) (by walk_at "ea") ⟨_, bo, rfl, rfl⟩) (rd_plusL (by rw [List.length_map, List.length_map]; omega))) (by rw [List.map_append])) evda_nil) ⟨_, by rw [List.length_append]; omega, bd, rfl, rfl⟩) (by walk_at "ea") fun H8 b8 tf8 => ?_
    refine ⟨_, _, _, _, rfl, bb.trans ((Bts.of (show Ex H' H7 by walk_at "ex")).trans b8), ?_⟩
    have q := put_tabOf (f := f) hkm (clRow (startsR (f kk) ++ startsR (bothRow (f l) (f m'))))
    rw [show ky ((kk.1 : Nat) : Int) ((kk.2 : Nat) : Int) = kyN kk from rfl, q] at tf8
    have : tabOf (pairsOf 3) (fun n => if n = kk then clRow (startsR (f kk) ++ startsR (bothRow (f l) (f m'))) else f n) = tabOf (pairsOf 3) (atR (parR (stR (x0 as) c) (i + 1))) := by
      refine List.map_congr_left fun n hn => ?_
      show (kyN n, rowD _) = (kyN n, rowD _)
      rw [← up n hn]
      rfl
    rw [← this]
    exact tf8
  rintro σ' H' ⟨x4, x5, x11, x12, rfl, bb, tf'⟩
  have tf' : Tab K H' fo (tabOf (pairsOf 3) (atR (stR (x0 as) (c + 1)))) := tf'
  refine s_when (b := decide ((tabD (tabOf (pairsOf 3) (atR (stR (x0 as) (c + 1))))).shown = (tabD (tabOf (pairsOf 3) (atR (stR (x0 as) c)))).shown)) (et_strEq (evd_reprT rfl tf' (no_tabOf _ _) (tab_shows hks (okc (c + 1)) (by decide))) (evd_var rfl (.str _) (Ex.refl _))) (fun h H6 e6 => ?_) (fun h H6 e6 => ?_)
  · have h := tab_inj (of_decide_eq_true h)
    exact fin _ _ _ _ _ _ H6 (bb.ex e6) (stR (x0 as) (c + 1)) (rest c h) (tf'.mono e6)
  · exact ⟨_, _, _, _, _, _, rfl, bb.ex e6, tf'.mono e6⟩
end Bw
end
section
set_option Elab.async false
set_option linter.all false
set_option maxRecDepth 100000
set_option maxHeartbeats 8000000
/-! the draws. -/
namespace Bw
open PySem PySem.Spec PyProof.Rows L2 Bfb
local macro_rules | `(tactic| walk_at "ex") => `(tactic| first
  | assumption
  | exact Ex.refl _
  | (refine Ex.trans ?_ (by assumption); walk_at "ex"))
local macro_rules | `(tactic| walk_at "om") => `(tactic| first | omega | assumption | (left; constructor <;> omega) | (right; constructor <;> omega) | decide)
local macro_rules | `(tactic| walk_at "ln") => `(tactic| first | decide | (simp only [List.length_cons, List.length_nil, List.length_append, List.length_map]; omega))
local macro_rules | `(tactic| walk_at "rd") => `(tactic| first
  | with_reducible exact rd_plus
  | with_reducible exact rd_sub
  | with_reducible exact rd_lt
  | with_reducible exact rd_le
  | with_reducible exact rd_gt
  | with_reducible exact rd_ge
  | with_reducible exact rd_eqI
  | with_reducible exact rd_neI
  | ((with_reducible apply rd_eqD); rfl; rfl)
  | ((with_reducible apply rd_neD); rfl; rfl)
  | ((with_reducible apply rd_mul); walk_at "om")
  | ((with_reducible apply rd_div); walk_at "om"; walk_at "om")
  | ((with_reducible apply rd_mod); walk_at "om")
  | ((with_reducible apply rd_divW); walk_at "om"; walk_at "om")
  | ((with_reducible apply rd_ixT); rfl)
  | ((with_reducible apply rd_ixL); rfl)
  | with_reducible exact rd_isNi
  | with_reducible exact rd_isNn
  | with_reducible exact rd_isNt
  | with_reducible exact rd_notNn)
local macro_rules | `(tactic| walk_at "ev") => `(tactic| first
  | with_reducible exact evd_int
  | ((with_reducible apply evd_varI); rfl)
  | ((with_reducible apply evd_varB); rfl)
  | ((with_reducible apply evd_var); rfl; assumption; walk_at "ex")
  | with_reducible exact evd_bl
  | with_reducible exact evd_non
  | with_reducible exact evd_str
  | ((with_reducible apply evd_op); walk_at "ev"; walk_at "ev"; walk_at "rd")
  | ((with_reducible apply evd_tup); walk_at "ea"; walk_at "ln")
  | ((with_reducible apply evd_lst); walk_at "ea"; walk_at "ln")
  | ((with_reducible apply evd_isInt); walk_at "ev")
  | ((with_reducible apply evd_isBool); walk_at "ev")
  | ((with_reducible apply evd_isTuple); walk_at "ev")
  | ((with_reducible apply evd_cb); walk_at "ea"; walk_at "rc")
  | with_reducible exact evd_neg1
  | ((with_reducible apply evd_notV); walk_at "ev")
  | ((with_reducible apply evd_call); walk_at "ea"; assumption))
local macro_rules | `(tactic| walk_at "ea") => `(tactic| first
  | with_reducible exact evda_nil
  | ((with_reducible apply evda_cons); walk_at "ev"; walk_at "ea")
  | ((with_reducible apply evda_starT); walk_at "ev"; walk_at "ea")
  | ((with_reducible apply evda_starL); walk_at "ev"; walk_at "ea"))
local macro_rules | `(tactic| walk_at "rc") => `(tactic| first
  | with_reducible exact rc_len
  | with_reducible exact rc_lenT
  | with_reducible exact rc_tupL
  | with_reducible exact rc_tupT
  | with_reducible exact rc_listL
  | with_reducible exact rc_listT
  | with_reducible exact rc_min2
  | with_reducible exact rc_max2
  | with_reducible exact rc_int1
  | with_reducible exact rc_abs
  | with_reducible exact rc_all
  | with_reducible exact rc_sum)
local macro_rules | `(tactic| walk_at "et") => `(tactic| first
  | ((with_reducible apply et_test (K := ‹PySem.W.Frag›)); walk_at "ev")
  | ((with_reducible apply et_B (K := ‹PySem.W.Frag›)); walk_at "ev")
  | ((with_reducible apply et_not); walk_at "et"))

variable {P : Program} {w : World} {K : PySem.W.Frag} {mg : Str → Option Value} {base : Heap}
abbrev s_law_any : Stmt := topS 39
abbrev N_law_any : List Str := ["_law_deal", "_law_bound", "_law_rest"]
theorem sc_law_any : FnScope N_law_any ["_law_deal", "_law_bound"] (defScope s_law_any) := ⟨rfl, rfl, rfl, by decide +kernel, rfl, by decide +kernel, by decide +kernel⟩
abbrev s_law_of : Stmt := topS 40
abbrev N_law_of : List Str := ["_law_deal", "_law_some"]
theorem sc_law_of : FnScope N_law_of ["_law_deal", "_law_some"] (defScope s_law_of) := ⟨rfl, rfl, rfl, by decide +kernel, rfl, by decide +kernel, by decide +kernel⟩
abbrev s_law_draw : Stmt := topS 38
abbrev N_law_draw : List Str := ["_law_script", "_law_salt", "_law_cell", "_law_cells", "_law_blend"]
theorem sc_law_draw : FnScope N_law_draw ["_law_script", "_law_salt"] (defScope s_law_draw) := ⟨rfl, rfl, rfl, by decide +kernel, rfl, by decide +kernel, by decide +kernel⟩
theorem eqv_nilI (r : List Int) : PyData.eqv (.list (r.map .int)) (.list []) = decide (r = []) := by
  cases r with
  | nil => rfl
  | cons p r => simp [PyData.eqv, PyData.eqvAll]
theorem canLay_ints : ∀ r : List Int, PyData.canLayAll0 (r.map .int) = true
  | [] => rfl
  | p :: r => by
    rw [List.map_cons, PyData.canLayAll0, canLay_ints r]
    rfl
theorem depth_ints : ∀ r : List Int, PyData.depthAll (r.map .int) ≤ 2
  | [] => Nat.zero_le _
  | p :: r => by
    rw [List.map_cons, PyData.depthAll]
    have h1 := depth_ints r
    have h2 : PyData.depth (.int p) ≤ 2 := by simp [PyData.depth]
    omega
theorem shaped_intsL (r : List Int) : SeqAt.shaped (.list (r.map .int)) = true := by
  have h1 := depth_ints r
  have h2 : (PyData.list (r.map .int)).depth ≤ 64 := by simp only [PyData.depth]; omega
  have h3 : (PyData.list (r.map .int)).canLay0 = true := by simp only [PyData.canLay0, canLay_ints]
  unfold SeqAt.shaped
  rw [h3, decide_eq_true h2]
  rfl
theorem at_lastI {xs : List Int} {x : Int} (h : xs.getLast? = some x) : atI (xs.map PyData.int) (-1) = some (.int x) := by
  have hx := h
  rw [List.getLast?_eq_getElem?] at hx
  have hl := (List.getElem?_eq_some_iff.mp hx).1
  unfold atI ixN
  rw [List.length_map, if_neg (by omega), if_pos (by omega)]
  show (xs.map PyData.int)[((-1 : Int) + (xs.length : Int)).toNat]? = _
  rw [show ((-1 : Int) + (xs.length : Int)).toNat = xs.length - 1 by omega, List.getElem?_map, hx]
  rfl
theorem fmod_nat {x : Int} {n : Nat} (h : 0 < n) : ∃ j : Nat, j < n ∧ x.fmod (n : Int) = (j : Int) := by
  have h1 := Int.fmod_nonneg_of_pos x (show (0 : Int) < (n : Int) by omega)
  have h2 := Int.fmod_lt_of_pos x (show (0 : Int) < (n : Int) by omega)
  exact ⟨(x.fmod (n : Int)).toNat, by omega, by omega⟩
theorem d_law_any (F : Fd K mg "_law_any" s_law_any) (B : Nm mg) : Df P w K mg base "_law_any" 1 ["_law_deal", "_law_bound"] (spAny) := by
  refine d_any F sc_law_any (fun _ _ _ _ _ _ us hl => match us, hl with | [_, _], _ => rfl) (by rintro _ _ _ _ ⟨a, c, n, rfl, n0, n1, hd, k⟩; rfl) fun f cdv A outer s H vs Q E hr hR => ?_
  have hu64 := hr.units
  have hu65 := room65 hr
  have hu1 := room1 hr
  obtain ⟨a, c, n, rfl, n0, n1, hd, k⟩ := hR
  refine ⟨_, (pss_cons (ps_while PassesOwn.never (PW.pt (pw_and (pt_cmpR (op_neK (K := K) hu64 rfl) (pe_ix (ix_K (K := K) rfl) (pv 0) pe_int (fun _ _ => rfl)) (pe_lst pa_nil) (nomark _)) (pw_and1 (pt_cmpR (op_eqK (K := K) hu64 rfl) (pe_ix (ix_K (K := K) rfl) (pe_ix (ix_K (K := K) rfl) (pv 0) pe_int (fun _ _ => rfl)) (pe_un un_neg pe_int) (fun _ _ => rfl)) pe_int (nomark _))))) (pss_one (ps_expr (pe_bm0 PySem.F.plainAttrs_list PySem.F.slot_list_pop PySem.F.type_list_pop mt_pop (pe_ix (ix_K (K := K) rfl) (pv 0) pe_int (fun _ _ => rfl))))))
      (pss_cons (ps_if (pt_cmpR (op_neK (K := K) hu64 rfl) (pe_ix (ix_K (K := K) rfl) (pv 0) pe_int (fun _ _ => rfl)) (pe_lst pa_nil) (nomark _)) (pss_cons (ps_set (i := 2) sc_law_any.nd rfl (.inl rfl) (pe_callTy call_int1 (by rfl) B.int (by decide +kernel) (pa_cons (pe_bm0 PySem.F.plainAttrs_list PySem.F.slot_list_pop PySem.F.type_list_pop mt_pop (pe_ix (ix_K (K := K) rfl) (pv 0) pe_int (fun _ _ => rfl))) pa_nil)))
      (pss_cons (ps_expr (pe_bm PySem.F.plainAttrs_list PySem.F.slot_list_append PySem.F.type_list_append mt_append (pe_ix (ix_K (K := K) rfl) (pv 0) pe_int (fun _ _ => rfl)) (pa_cons (pe_op op_fdivN (pv 2) (pv 1)) pa_nil)))
      (pss_one (ps_ret (pe_op op_modN (pv 2) (pv 1)))))) pss_nil)
      (pss_cons (ps_asg (pe_op op_modN (pe_callTy call_int1 (by rfl) B.int (by decide +kernel) (pa_cons (pe_op (op_plusK (K := K) rfl) (pe_op op_mul (pe_ix (ix_K (K := K) rfl) (pv 0) pe_int (fun _ _ => rfl)) pe_int) pe_int) pa_nil)) pe_int) (pg_sub (pv 0) pe_int set_list))
      (pss_one (ps_ret (pe_op op_modN (pe_callTy call_int1 (by rfl) B.int (by decide +kernel) (pa_cons (pe_op op_fdivN (pe_ix (ix_K (K := K) rfl) (pv 0) pe_int (fun _ _ => rfl)) pe_int) pa_nil)) (pv 1))))))), ?_⟩
  try dsimp only [cxOf, Cx.nox, Cx.wish]
  have hn0 : (n : Int) ≠ 0 := by omega
  have nz : (n : Int).natAbs < 1073741824 := by omega
  -- what is asked of the great cells
  have neT : ∀ {σ : L2.St} {H : Hp} {m : Int} {xs : List Int}, σ[0]? = some (some (.ref a)) → H a = some (.lst [.ref c, .int m]) → H c = some (.lst (xs.map V.int)) →
      EvT (tTest (tOp (rNeD K) (tOp (rIx K) (tVar 0) (tC (V.int 0))) (tLst tNil))) σ H (!decide (xs = [])) := fun {σ H m xs} hv h1 h2 =>
    et_test (evd_is (evd_op (evd_op (evd_var hv (dealDp (K := K) h1 h2) (Ex.refl _)) evd_int (rd_ixL (f := .list (xs.map .int)) rfl)) (evd_lst (ds := []) evda_nil (by decide)) (rd_neD (shaped_intsL xs) rfl)) (by rw [eqv_nilI]))
  refine q_while (fun m σ' H' => σ' = L2.start N_law_any [V.ref a, V.int (n : Nat)] ∧ Bts [a, c] H H' ∧ Deal H' a c ∧ ∃ xs : List Int, xs.length = m ∧ H' c = some (.lst (xs.map V.int))) _ ⟨rfl, Bts.refl, hd, hd.choose, rfl, hd.choose_spec.choose_spec.2.1⟩ ?_
  rintro m σ' H' ⟨rfl, b, hd', xs, rfl, hc⟩
  obtain ⟨xs', m, h1, h2, h3⟩ := hd'
  rw [hc] at h2
  have h2 := HO.lst.inj (Option.some.inj h2)
  have ee : xs = xs' := by
    have : ∀ p q : List Int, p.map V.int = q.map V.int → p = q := fun p => by
      induction p with
      | nil => intro q h; cases q with
        | nil => rfl
        | cons => cases h
      | cons x p ih => intro q h; cases q with
        | nil => cases h
        | cons y q =>
          rw [List.map_cons, List.map_cons] at h
          injection h with h4 h5
          cases h4
          rw [ih q h5]
    exact this _ _ h2
  subst ee
  clear h2
  have dl : ∀ ys : List Int, ys.length ≤ 63 → Deal (upd H' c (.lst (ys.map V.int))) a c := fun ys hy => ⟨ys, m, by rw [upd_ne (Deal.ne ⟨xs, m, h1, hc, h3⟩)]; exact h1, upd_same, hy⟩
  have bt : ∀ o, Bts [a, c] H (upd H' c o) := fun o => b.trans (Bts.upd (by simp))
  refine ⟨!decide (xs = []) && decide (xs.getLast? = some 0), et_and (neT rfl h1 hc) fun hne => ?_, fun hb H1 e1 => ?_, fun hb H1 e1 => ?_⟩
  · have hne : xs ≠ [] := by simpa using hne
    obtain ⟨x, hx⟩ : ∃ x, xs.getLast? = some x := ⟨_, List.getLast?_eq_some_getLast hne⟩
    refine et_test (K := K) (evd_is (evd_op (evd_op (evd_op (evd_var (i := 0) rfl (dealDp (K := K) h1 hc) (Ex.refl _)) evd_int (rd_ixL (f := .list (xs.map .int)) rfl)) evd_neg1 (rd_ixL (at_lastI hx))) evd_int rd_eqI) ?_)
    rw [hx]
    simp
  · have hb : ¬xs = [] ∧ xs.getLast? = some 0 := by simpa using hb
    have g1 := e1 _ _ h1
    have g2 := e1 _ _ hc
    refine t_popc (K := K) (i := 0) rfl g1 g2 hb.2 ?_
    have hlen : xs.dropLast.length = xs.length - 1 := List.length_dropLast
    have hpos := List.length_pos_iff.mpr hb.1
    refine ⟨xs.dropLast.length, by omega, rfl, (b.ex e1).trans (Bts.upd (by simp)), ⟨xs.dropLast, m, by rw [upd_ne (Deal.ne ⟨xs, m, h1, hc, h3⟩)]; exact g1, upd_same, by omega⟩, xs.dropLast, rfl, upd_same⟩
  · refine q_when (b := !decide (xs = [])) (neT rfl (e1 _ _ h1) (e1 _ _ hc)) (fun hne H2 e2 => ?_) (fun hne H2 e2 => ?_)
    · have hne : xs ≠ [] := by simpa using hne
      obtain ⟨x, hx⟩ : ∃ x, xs.getLast? = some x := ⟨_, List.getLast?_eq_some_getLast hne⟩
      have e := e1.trans e2
      have g1 := e _ _ h1
      have g2 := e _ _ hc
      have nac : a ≠ c := Deal.ne ⟨xs, m, h1, hc, h3⟩
      refine t_popc (K := K) (i := 0) rfl g1 g2 hx (.inl ⟨x, rfl, ?_⟩)
      have hlen : xs.dropLast.length = xs.length - 1 := List.length_dropLast
      have hpos := List.length_pos_iff.mpr hne
      have f1 : upd H2 c (.lst (xs.dropLast.map V.int)) a = some (.lst [.ref c, .int m]) := by rw [upd_ne nac]; exact g1
      refine t_ix (K := K) (j := 0) (v := .ref c) rfl (SqL.of f1) rfl ⟨.inl ⟨rfl, _, SqL.of upd_same⟩, ⟨_, rfl, _, rfl, x, n, rfl, rfl, ⟨hn0, nz⟩, c, _, _, rfl, rfl, upd_same, Evl.sz_lt (by rw [List.length_map]; omega), ?_⟩⟩
      obtain ⟨j, hj, ej⟩ := fmod_nat (x := x) n0
      refine ⟨_, rfl, _, rfl, x, n, rfl, rfl, hn0, ?_⟩
      show Q (.int (x.fmod (n : Int))) _
      rw [ej]
      refine k j _ hj ((b.ex e).trans ((Bts.upd (by simp)).trans (Bts.upd (by simp)))) ⟨xs.dropLast ++ [x.fdiv (n : Int)], m, ?_, ?_, ?_⟩
      · rw [upd_ne nac]; exact f1
      · rw [upd_same, List.map_append]; rfl
      · rw [List.length_append]; simp only [List.length_cons, List.length_nil]; omega
    · have e := e1.trans e2
      have g1 := e _ _ h1
      have g2 := e _ _ hc
      have nac : a ≠ c := Deal.ne ⟨xs, m, h1, hc, h3⟩
      have cm : CMul m 40693 := by right; constructor <;> omega
      have dp := dealDp (K := K) g1 g2
      refine q_asg K (d := .int ((m * 40693 + 71).fmod 2147483647)) (evd_op (evd_cb (evda_cons (evd_op (evd_op (evd_op (evd_var (i := 0) rfl dp (Ex.refl _)) evd_int (rd_ixL (f := .int m) rfl)) evd_int (rd_mul cm)) evd_int rd_plus) evda_nil) rc_int1) evd_int (rd_mod (by decide))) fun v H3 e3 dv => ?_
      cases dp_int dv
      generalize (m * 40693 + 71).fmod 2147483647 = M
      refine ⟨_, rfl, a, _, 1, 1, rfl, rfl, e3 _ _ g1, rfl, ?_⟩
      have f1 : upd H3 a (.lst [.ref c, .int M]) c = some (.lst (xs.map V.int)) := by rw [upd_ne nac.symm]; exact e3 _ _ g2
      have dp2 := dealDp (K := K) (a := a) (c := c) (H := upd H3 a (.lst [.ref c, .int M])) upd_same f1
      obtain ⟨j, hj, ej⟩ := fmod_nat (x := M.fdiv 64) n0
      refine s_ret K (d := .int ((M.fdiv 64).fmod (n : Int))) (evd_op (evd_cb (evda_cons (evd_op (evd_op (evd_var (i := 0) rfl dp2 (Ex.refl _)) evd_int (rd_ixL (f := .int M) rfl)) evd_int (rd_div (by decide) (by decide))) evda_nil) rc_int1) (evd_varI rfl) (rd_mod hn0)) fun v H4 e4 dv => ?_
      rw [ej] at dv
      cases dp_int dv
      exact k j _ hj (((b.ex e).ex e3).trans ((Bts.upd (by simp)).ex e4)) ⟨xs, M, e4 _ _ upd_same, e4 _ _ f1, h3⟩
theorem d_law_of (F : Fd K mg "_law_of" s_law_of) (B : Nm mg) (D_law_any : Df P w K mg base "_law_any" 1 ["_law_deal", "_law_bound"] (spAny)) : Df P w K mg base "_law_of" 2 ["_law_deal", "_law_some"] (spOf K) := by
  refine d_any F sc_law_of (fun _ _ _ _ _ _ us hl => match us, hl with | [_, _], _ => rfl) (by rintro _ _ _ _ ⟨a, c, q, ys, rfl, hq, hnq, l0, l1, hd, k⟩; rfl) fun f cdv A outer s H vs Q E hr hR => ?_
  have hu64 := hr.units
  have hu65 := room65 hr
  have hu1 := room1 hr
  obtain ⟨a, c, q, ys, rfl, hq, hnq, l0, l1, hd, k⟩ := hR
  refine ⟨_, (pss_one (ps_ret (pe_ix (ix_K (K := K) rfl) (pv 1) (pe_df D_law_any (hr.mono (by decide)) (by rfl) (pa_cons (pv 0) (pa_cons (pe_callB (call_lenK (K := K) rfl) (by rfl) B.len PySem.boot_len (pa_cons (pv 1) pa_nil)) pa_nil))) (fun _ _ => rfl)))), ?_⟩
  try dsimp only [cxOf, Cx.nox, Cx.wish]
  refine ⟨_, rfl, _, rfl, _, rfl, q, ys, rfl, .inl hq, a, c, ys.length, rfl, l0, l1, hd, fun j H1 hj b d1 => ?_⟩
  have hv : ys[j]? = some ys[j] := List.getElem?_eq_getElem hj
  refine .inl ⟨q, ys, (j : Nat), ys[j], rfl, rfl, sql_bts b hnq hq, ?_, k j _ H1 hv b d1⟩
  unfold atI ixN
  rw [if_pos (by omega), if_pos (by omega)]
  exact hv
theorem d_law_draw (F : Fd K mg "_law_draw" s_law_draw) (B : Nm mg) : Df P w K mg base "_law_draw" 1 ["_law_script", "_law_salt"] (spDraw K) := by
  refine d_any F sc_law_draw (fun _ _ _ _ _ _ us hl => match us, hl with | [_, _], _ => rfl) (by rintro _ _ _ _ ⟨q, ns, rfl, hq, hl, k⟩; rfl) fun f cdv A outer s H vs Q E hr hR => ?_
  have hu64 := hr.units
  have hu65 := room65 hr
  have hu1 := room1 hr
  obtain ⟨q, ns, rfl, hq, hl, k⟩ := hR
  refine ⟨_, (pss_cons (ps_setLc (i := 3) (own := [("_law_cell", 2)]) rfl sc_law_draw.nd rfl rfl (sw_true rfl rfl rfl (by decide +kernel)) (pi_seqK (K := K) rfl (pe_slice (sl_K (K := K) rfl) (pv 0) po_none (po_some pe_int))) (blkOk_by (own := [("_law_cell", 2)]) (N := N_law_draw) (sc := defScope s_law_draw) (by decide +kernel)) (fun _ _ _ _ _ => (pg_name (i := 2) sc_law_draw.nd rfl (.inl rfl))) (fun _ _ _ _ _ => pts_nil) (fun _ _ _ _ _ => (pe_callB call_abs (by rfl) B.abs (by decide +kernel) (pa_cons (pe_callTy call_int1 (by rfl) B.int (by decide +kernel) (pa_cons (pv 2) pa_nil)) pa_nil))))
      (pss_cons (ps_set (i := 4) sc_law_draw.nd rfl (.inl rfl) (pe_op (op_plusK (K := K) rfl) pe_int (pe_op op_mul pe_int (pv 1))))
      (pss_cons (ps_for PassesOwn.never rfl (pi_seqK (K := K) rfl (pv 3)) (pg_name (i := 2) sc_law_draw.nd rfl (.inl rfl)) (pss_one (ps_set (i := 4) sc_law_draw.nd rfl (.inl rfl) (pe_op op_modN (pe_callTy call_int1 (by rfl) B.int (by decide +kernel) (pa_cons (pe_op (op_plusK (K := K) rfl) (pe_op (op_plusK (K := K) rfl) (pe_op op_mul (pv 4) pe_int) (pe_op op_modN (pv 2) pe_int)) pe_int) pa_nil)) pe_int))))
      (pss_one (ps_ret (pe_lst (pa_cons (pe_revL (pe_lc (own := [("_law_cell", 2)]) rfl sc_law_draw.nd (pi_seqK (K := K) rfl (pv 3)) (blkOk_by (own := [("_law_cell", 2)]) (N := N_law_draw) (sc := defScope s_law_draw) (by decide +kernel)) (fun _ _ _ _ _ => (pg_name (i := 2) sc_law_draw.nd rfl (.inl rfl))) (fun _ _ _ _ _ => pts_one (pt_cmpR op_ge (pv 2) (pe_op op_pow pe_int pe_int) (nomark _))) (fun _ _ _ _ _ => (pv 2)))) (pa_cons (pv 4) pa_nil)))))))), ?_⟩
  try dsimp only [cxOf, Cx.nox, Cx.wish]
  have dq : Dp K H (.ref q) (.list (ns.map .int)) := .lst hq (ints_dpa ns)
  obtain ⟨cs, hcs, hcl⟩ : ∃ cs : List Int, cutD (ns.map PyData.int) none (some 48) = cs.map .int ∧ cs.length ≤ 63 := by
    unfold cutD
    rw [← List.map_drop, ← List.map_take]
    exact ⟨_, rfl, by rw [List.length_take, List.length_drop]; omega⟩
  refine q_set K (d := .list ((cs.map fun x => ((x.natAbs : Nat) : Int)).map .int)) (evd_is (evd_lcI (b := true) PyData.int cs (fun _ => true) (fun x => .int ((x.natAbs : Nat) : Int)) (show EvD K _ _ _ (.list (cs.map .int)) from evd_is (evd_slL (K := K) (lo := none) (hi := some 48) (evd_var (i := 0) rfl dq (Ex.refl _)) eo_none (eo_some (K := K) evd_int)) (by rw [hcs])) (by omega) (fun _ _ _ => rfl) fun c hc => ?_)
    (by rw [filter_yes, List.map_map]; rfl)) fun v H1 e1 dv => ?_
  · refine lct_name (fun v => rfl) fun v H1 e dv => ⟨et_yes, fun _ => ?_⟩
    exact evd_cb (evda_cons (evd_cb (evda_cons (evd_var rfl dv (Ex.refl _)) evda_nil) rc_int1) evda_nil) rc_abs
  generalize hL : (cs.map fun x => ((x.natAbs : Nat) : Int)) = L at dv
  have hLl : L.length ≤ 63 := by rw [← hL, List.length_map]; exact hcl
  refine q_set K (d := .int (7919 + 104729 * 45)) (evd_op evd_int (evd_op evd_int (evd_varI rfl) (rd_mul (.inl ⟨by decide, by decide⟩))) rd_plus) fun v4 H2 e2 d4 => ?_
  cases dp_int d4
  have dv2 := dp_ex e2 dv
  refine q_forV K (b := true) (i := 3) rfl dv2 ⟨fun i σ' H' => ∃ (x2 : Option V) (m : Int), σ' = [some (.ref q), some (.int 45), x2, some v, some (.int m)] ∧ Ex H2 H', ⟨none, _, rfl, Ex.refl _⟩, fun i σ' H' ⟨_, _, _, e⟩ => dp_ex e dv2, ?_, ?_⟩
  · rintro i d x σ' H' hi dx ⟨x2, m, rfl, e⟩
    obtain ⟨y, rfl⟩ : ∃ y, d = .int y := by
      rw [List.getElem?_map] at hi
      cases hp : L[i]? with
      | none => rw [hp] at hi; cases hi
      | some p => rw [hp] at hi; exact ⟨p, (Option.some.inj hi).symm⟩
    cases dp_int dx
    have cm : CMul m 48271 := by right; constructor <;> omega
    refine s_set K (d := .int ((m * 48271 + y.fmod 2147483549 + 11).fmod 2147483647)) (evd_op (evd_cb (evda_cons (evd_op (evd_op (evd_op (evd_varI rfl) evd_int (rd_mul cm)) (evd_op (evd_varI rfl) evd_int (rd_mod (by decide))) rd_plus) evd_int rd_plus) evda_nil) rc_int1) evd_int (rd_mod (by decide))) fun u H3 e3 du => ?_
    cases dp_int du
    exact ⟨some (.int y), _, rfl, e.trans e3⟩
  · rintro σ' H' ⟨x2, m, rfl, e⟩
    have dv3 := dp_ex e dv2
    have ex0 : Ex H H' := (e1.trans e2).trans e
    have hE : EvD K (tLc (iSeq K (tVar 3)) (gName 2) (tTest (tOp (rI0 fun i j => V.bl (decide (j ≤ i))) (tVar 2) (tOp (rI CPow fun i j => V.int (i ^ j.toNat)) (tC (V.int 10)) (tC (V.int 18))))) (tVar 2) [2]) [some (.ref q), some (.int 45), x2, some v, some (.int m)] H'
        (.list ((L.filter fun x => decide ((10 : Int) ^ 18 ≤ x)).map .int)) := ?_
    refine s_retT (t_lst2 (t_revL (hE H' (Ex.refl _) _ fun u H3 e3 du => ?_)))
    rotate_left
    · refine evd_lcI (K := K) (b := true) PyData.int L (fun x => decide ((10 : Int) ^ 18 ≤ x)) PyData.int (show EvD K _ _ _ (.list (L.map .int)) from evd_var (i := 3) rfl dv3 (Ex.refl _)) (by omega) (fun _ _ _ => rfl) (fun c hc => ?_)
      refine lct_name (fun v => rfl) fun v H1 e dv => ⟨et_test (K := K) (evd_op (evd_var rfl dv (Ex.refl _)) (evd_op evd_int evd_int (rd_I ⟨by decide, by decide, by decide⟩ fun _ => .int _)) rd_ge), fun _ => evd_var rfl dv (Ex.refl _)⟩
    · obtain ⟨b, xs, rfl, s1, s2⟩ := dp_lst du
      have s2 := dpa_ints s2
      subst s2
      refine ⟨b, _, rfl, s1, fun c nc => ⟨_, rfl, fun a na => k a c _ ?_ ?_ ?_ ⟨(L.filter fun x => decide ((10 : Int) ^ 18 ≤ x)).reverse, m, upd_same, ?_, ?_⟩⟩⟩
      · exact fresh_ex ((ex0.trans e3).trans (Ex.new nc)) na
      · exact fresh_ex (ex0.trans e3) nc
      · exact ((ex0.trans e3).trans (Ex.new nc)).trans (Ex.new na)
      · have hc : upd H3 c (.lst (List.map V.int (L.filter fun x => decide ((10 : Int) ^ 18 ≤ x))).reverse) c = _ := upd_same
        rw [Ex.new na _ _ hc, List.map_reverse]
      · rw [List.length_reverse]
        exact Nat.le_trans (List.length_filter_le _ _) hLl
end Bw
end
section
set_option Elab.async false
set_option linter.all false
set_option maxRecDepth 100000
set_option maxHeartbeats 8000000
/-! accords drawn. -/
namespace Bw
open PySem PySem.Spec PyProof.Rows L2 Bfb
local macro_rules | `(tactic| walk_at "ex") => `(tactic| first
  | assumption
  | exact Ex.refl _
  | (refine Ex.trans ?_ (by assumption); walk_at "ex"))
local macro_rules | `(tactic| walk_at "om") => `(tactic| first | omega | assumption | (left; constructor <;> omega) | (right; constructor <;> omega) | decide)
local macro_rules | `(tactic| walk_at "ln") => `(tactic| first | decide | (simp only [List.length_cons, List.length_nil, List.length_append, List.length_map]; omega))
local macro_rules | `(tactic| walk_at "rd") => `(tactic| first
  | with_reducible exact rd_plus
  | with_reducible exact rd_sub
  | with_reducible exact rd_lt
  | with_reducible exact rd_le
  | with_reducible exact rd_gt
  | with_reducible exact rd_ge
  | with_reducible exact rd_eqI
  | with_reducible exact rd_neI
  | ((with_reducible apply rd_eqD); rfl; rfl)
  | ((with_reducible apply rd_neD); rfl; rfl)
  | ((with_reducible apply rd_mul); walk_at "om")
  | ((with_reducible apply rd_div); walk_at "om"; walk_at "om")
  | ((with_reducible apply rd_mod); walk_at "om")
  | ((with_reducible apply rd_divW); walk_at "om"; walk_at "om")
  | ((with_reducible apply rd_ixT); rfl)
  | ((with_reducible apply rd_ixL); rfl)
  | with_reducible exact rd_isNi
  | with_reducible exact rd_isNn
  | with_reducible exact rd_isNt
  | with_reducible exact rd_notNn)
local macro_rules | `(tactic| walk_at "ev") => `(tactic| first
  | with_reducible exact evd_int
  | ((with_reducible apply evd_varI); rfl)
  | ((with_reducible apply evd_varB); rfl)
  | ((with_reducible apply evd_var); rfl; assumption; walk_at "ex")
  | with_reducible exact evd_bl
  | with_reducible exact evd_non
  | with_reducible exact evd_str
  | ((with_reducible apply evd_op); walk_at "ev"; walk_at "ev"; walk_at "rd")
  | ((with_reducible apply evd_tup); walk_at "ea"; walk_at "ln")
  | ((with_reducible apply evd_lst); walk_at "ea"; walk_at "ln")
  | ((with_reducible apply evd_isInt); walk_at "ev")
  | ((with_reducible apply evd_isBool); walk_at "ev")
  | ((with_reducible apply evd_isTuple); walk_at "ev")
  | ((with_reducible apply evd_cb); walk_at "ea"; walk_at "rc")
  | with_reducible exact evd_neg1
  | ((with_reducible apply evd_notV); walk_at "ev")
  | ((with_reducible apply evd_call); walk_at "ea"; assumption))
local macro_rules | `(tactic| walk_at "ea") => `(tactic| first
  | with_reducible exact evda_nil
  | ((with_reducible apply evda_cons); walk_at "ev"; walk_at "ea")
  | ((with_reducible apply evda_starT); walk_at "ev"; walk_at "ea")
  | ((with_reducible apply evda_starL); walk_at "ev"; walk_at "ea"))
local macro_rules | `(tactic| walk_at "rc") => `(tactic| first
  | with_reducible exact rc_len
  | with_reducible exact rc_lenT
  | with_reducible exact rc_tupL
  | with_reducible exact rc_tupT
  | with_reducible exact rc_listL
  | with_reducible exact rc_listT
  | with_reducible exact rc_min2
  | with_reducible exact rc_max2
  | with_reducible exact rc_int1
  | with_reducible exact rc_abs
  | with_reducible exact rc_all
  | with_reducible exact rc_sum)
local macro_rules | `(tactic| walk_at "et") => `(tactic| first
  | ((with_reducible apply et_test (K := ‹PySem.W.Frag›)); walk_at "ev")
  | ((with_reducible apply et_B (K := ‹PySem.W.Frag›)); walk_at "ev")
  | ((with_reducible apply et_not); walk_at "et"))

variable {P : Program} {w : World} {K : PySem.W.Frag} {mg : Str → Option Value} {base : Heap}
abbrev s_law_accords : Stmt := topS 50
abbrev N_law_accords : List Str := ["_law_deal", "_law_bodies", "_law_most", "_law_found", "_law_turn", "_law_one", "_law_other"]
theorem sc_law_accords : FnScope N_law_accords ["_law_deal", "_law_bodies", "_law_most"] (defScope s_law_accords) := ⟨rfl, rfl, rfl, by decide +kernel, rfl, by decide +kernel, by decide +kernel⟩
abbrev s_law_bad_accords : Stmt := topS 51
abbrev N_law_bad_accords : List Str := ["_law_deal", "_law_bodies", "_law_accords_here", "_law_at_here", "_law_bad", "_law_form"]
theorem sc_law_bad_accords : FnScope N_law_bad_accords ["_law_deal", "_law_bodies", "_law_accords_here"] (defScope s_law_bad_accords) := ⟨rfl, rfl, rfl, by decide +kernel, rfl, by decide +kernel, by decide +kernel⟩
/-- accords of b bodies with small counts -/
def AccB (b : Nat) (as : List (Nat × Nat × Nat)) : Prop := ∀ x ∈ as, x.1 < b ∧ x.2.1 < b ∧ x.2.2 ≤ 24
def spAccords (K : PySem.W.Frag) : Sp := fun vs H Q _ => ∃ (a c : Addr) (b m : Nat), vs = [.ref a, .int (b : Nat), .int (m : Nat)] ∧ 0 < b ∧ b ≤ 3 ∧ 0 < m ∧ m ≤ 25 ∧ Deal H a c ∧ ∀ (p : Addr) (as : List (Nat × Nat × Nat)) H', as.length ≤ 5 → AccB b as → H p = none → Bts [a, c] H H' → Deal H' a c → Own K H' p (as.map accD) → Q (.ref p) H'
theorem noAcc (as : List (Nat × Nat × Nat)) : noLs (as.map accD) = true := noLs_all fun d hd => by
  obtain ⟨x, _, rfl⟩ := List.mem_map.mp hd
  rfl
theorem d_law_accords (F : Fd K mg "_law_accords" s_law_accords) (B : Nm mg) (D_law_any : Df P w K mg base "_law_any" 1 ["_law_deal", "_law_bound"] (spAny)) (D_law_of : Df P w K mg base "_law_of" 2 ["_law_deal", "_law_some"] (spOf K)) : Df P w K mg base "_law_accords" 3 ["_law_deal", "_law_bodies", "_law_most"] (spAccords K) := by
  refine d_any F sc_law_accords (fun _ _ _ _ _ _ us hl => match us, hl with | [_, _, _], _ => rfl) (by rintro _ _ _ _ ⟨a, c, b, m, rfl, b0, b3, m0, m25, hd, k⟩; rfl) fun f cdv A outer s H vs Q E hr hR => ?_
  have hu64 := hr.units
  have hu65 := room65 hr
  have hu1 := room1 hr
  obtain ⟨a, c, b, m, rfl, b0, b3, m0, m25, hd, k⟩ := hR
  refine ⟨_, (pss_cons (ps_set (i := 3) sc_law_accords.nd rfl (.inl rfl) (pe_lst pa_nil))
      (pss_cons (ps_for PassesOwn.never rfl (pi_range1 (by rfl) B.range (pa_cons (pe_df D_law_any (hr.mono (by decide)) (by rfl) (pa_cons (pv 0) (pa_cons pe_int pa_nil))) pa_nil)) (pg_name (i := 4) sc_law_accords.nd rfl (.inl rfl)) (pss_cons (ps_par (i := 5) (j := 6) (by rfl) sc_law_accords.nd rfl rfl (by decide) rfl rfl (pa_cons (pe_df D_law_any (hr.mono (by decide)) (by rfl) (pa_cons (pv 0) (pa_cons (pv 1) pa_nil))) (pa_cons (pe_df D_law_any (hr.mono (by decide)) (by rfl) (pa_cons (pv 0) (pa_cons (pv 1) pa_nil))) pa_nil)) (by rfl))
      (pss_one (ps_expr (pe_bm PySem.F.plainAttrs_list PySem.F.slot_list_append PySem.F.type_list_append mt_append (pv 3) (pa_cons (pe_tup (pa_cons (pv 5) (pa_cons (pv 6) (pa_cons (pe_df D_law_of (hr.mono (by decide)) (by rfl) (pa_cons (pv 0) (pa_cons (pe_lst (pa_cons pe_int (pa_cons pe_int (pa_cons pe_int (pa_cons pe_int (pa_cons (pe_df D_law_any (hr.mono (by decide)) (by rfl) (pa_cons (pv 0) (pa_cons (pv 2) pa_nil))) (pa_cons (pe_df D_law_any (hr.mono (by decide)) (by rfl) (pa_cons (pv 0) (pa_cons (pv 2) pa_nil))) (pa_cons (pe_op (op_plusK (K := K) rfl) pe_int (pe_df D_law_any (hr.mono (by decide)) (by rfl) (pa_cons (pv 0) (pa_cons pe_int pa_nil)))) pa_nil)))))))) pa_nil))) pa_nil)))) pa_nil))))))
      (pss_one (ps_ret (pv 3))))), ?_⟩
  try dsimp only [cxOf, Cx.nox, Cx.wish]
  refine q_new K fun p H1 e1 np op => ?_
  have d1 := hd.mono e1
  have hp := hd.nin np
  refine q_forRN K (N0 := 5) d1 (evna_mono (evna_cons (fun d ⟨j, _, e⟩ => by rw [e]; rfl) (evn_any (n := 6) rfl (by decide) (by decide) fun H1 b => evd_int) evna_nil) fun ds ⟨d, es, e1, ⟨j, hj, e2⟩, e3⟩ => ⟨j, by omega, by rw [e1, e2, e3]⟩) (by decide) fun n H2 hn b2 d2 => ?_
  refine ⟨fun i σ' H' => ∃ (x4 x5 x6 : Option V) (as : List (Nat × Nat × Nat)), σ' = [some (.ref a), some (.int (b : Nat)), some (.int (m : Nat)), some (.ref p), x4, x5, x6] ∧ as.length = i ∧ AccB b as ∧ Bts [a, c] H H' ∧ Deal H' a c ∧ Own K H' p (as.map accD),
    ⟨none, none, none, [], rfl, rfl, fun x hx => (nomatch hx), (Bts.of e1).trans b2, d2, op.bts b2 d1.lsts rfl hp⟩, ?_, ?_⟩
  · rintro i σ' H' hi ⟨x4, x5, x6, as, rfl, hl, hb, bb, dl, o⟩
    refine q_parN K (R := fun d => ∃ j : Nat, j < b ∧ d = .int (j : Nat)) (R' := fun d => ∃ j : Nat, j < b ∧ d = .int (j : Nat)) dl (fun d ⟨j, _, e⟩ => by rw [e]; rfl) (evn_any rfl b0 (by omega) fun H1 b => evd_varI rfl) (evn_any rfl b0 (by omega) fun H1 b => evd_varI rfl) fun v w d e H3 b3 d3 r1 r2 dv dw => ?_
    obtain ⟨i1, hi1, rfl⟩ := r1
    obtain ⟨i2, hi2, rfl⟩ := r2
    cases dp_int dv
    cases dp_int dw
    have o3 := o.bts b3 dl.lsts (noAcc as) hp
    have ci : ∀ {σ : L2.St} {H : Hp} (j : Nat), j ≤ 24 → EvN K a c (tC (.int (j : Nat))) σ H (NatLe 24) := fun j h => evn_ofP (fun _ _ => evd_int) ⟨j, h, rfl⟩
    have any : ∀ {σ : L2.St} {H : Hp} {n : Nat} {te : TE}, σ[0]? = some (some (V.ref a)) → 0 < n → n ≤ 25 → (∀ H1, EvD K te σ H1 (.int (n : Nat))) → EvN K a c (tCall spAny [] E0 (tCons (tVar 0) (tCons te tNil))) σ H (NatLe 24) := fun hv h1 h2 h => evn_mono (evn_any hv h1 (by omega) fun H1 _ => h H1) fun d ⟨j, hj, e⟩ => ⟨j, by omega, e⟩
    refine s_appN K (R := fun d => ∃ n : Nat, n ≤ 24 ∧ d = accD (i1, i2, n)) d3 o3 hp rfl (noAcc as) (fun d ⟨n, _, e⟩ => by rw [e]; rfl) (by rw [List.length_map]; omega)
      (evn_mono (evn_tup (evna_cons (R := fun d => d = .int (i1 : Nat)) (fun d e => by rw [e]; rfl) (evn_of fun H1 _ => evd_varI rfl) (evna_cons (R := fun d => d = .int (i2 : Nat)) (fun d e => by rw [e]; rfl) (evn_of fun H1 _ => evd_varI rfl)
        (evna_cons natLe_noL (evn_mono (evn_ofL rfl (evna_consP natLe_noL (ci 2 (by decide)) (evna_consP natLe_noL (ci 3 (by decide)) (evna_consP natLe_noL (ci 2 (by decide)) (evna_consP natLe_noL (ci 4 (by decide)) (evna_consP natLe_noL (any rfl m0 m25 fun H1 => evd_varI rfl) (evna_consP natLe_noL (any rfl m0 m25 fun H1 => evd_varI rfl)
          (evna_consP natLe_noL (evn_op (R := fun d => d = .int 1) (S := NatLe 5) (fun d e => by rw [e]; rfl) (evn_of fun H1 _ => evd_int) (evn_mono (evn_any (n := 6) rfl (by decide) (by decide) fun H1 _ => evd_int) fun d ⟨j, hj, e⟩ => ⟨j, by omega, e⟩) fun H1 d e r1 ⟨j, hj, r2⟩ => ⟨.int (1 + (j : Nat)), ⟨1 + j, by omega, by rw [Int.natCast_add]; rfl⟩, by rw [r1, r2]; exact rd_plus⟩) evna_nilP)))))))
          fun ds ⟨h1, h2⟩ => ⟨by omega, by omega, noLs_all fun d hd => natLe_noL d (h2 d hd)⟩) fun d ⟨ds, hds, hm⟩ => hds.2 d hm) evna_nil))) fun ds ⟨d1, es1, g1, _, d2, es2, g2, _, d3, es3, g3, _, g4⟩ => by rw [g1, g2, g3, g4]; simp)
        fun d ⟨ds, e0, d1, es1, g1, q1, d2, es2, g2, q2, d3, es3, g3, ⟨j, hj, q3⟩, g4⟩ => ⟨j, hj, by rw [e0, g1, g2, g3, g4, q1, q2, q3]; rfl⟩) fun d H4 r4 b4 d4 o4 => ?_
    obtain ⟨j, hj, rfl⟩ := r4
    refine ⟨some (.int (i : Nat)), some (.int (i1 : Nat)), some (.int (i2 : Nat)), as ++ [(i1, i2, j)], rfl, by rw [List.length_append, hl]; rfl, fun x hx => ?_, bts_new (bb.trans b3) b4 np, d4, by rw [List.map_append]; exact o4⟩
    rcases List.mem_append.mp hx with z | z
    · exact hb x z
    · rw [List.mem_singleton.mp z]
      exact ⟨hi1, hi2, hj⟩
  · rintro σ' H' ⟨x4, x5, x6, as, rfl, hl, hb, bb, dl, o⟩
    exact ⟨_, rfl, k p as H' (by omega) hb np bb dl o⟩
end Bw
end
section
set_option Elab.async false
set_option linter.all false
set_option maxRecDepth 100000
set_option maxHeartbeats 4000000
/-! InvalidQuestion(n) made: its __init__ asks super().__init__ and stores the number. -/
namespace Bw
open PySem PySem.Spec PyProof.Rows L2
open PySem.W (Frag)
def iqA : Arguments := { posonlyargs := [], args := [{ arg := "self", annotation := none, pos := ⟨11, 17, 11, 21⟩ }, { arg := "at", annotation := none, pos := ⟨11, 23, 11, 25⟩ }], vararg := none, kwonlyargs := [], kw_defaults := [], kwarg := none, defaults := [] }
def iqB : List Stmt :=
  [.Expr (.Call (.Attribute (.Call (.Name "super" ⟨12, 8, 12, 13⟩) [] [] ⟨12, 8, 12, 15⟩) "__init__" ⟨12, 8, 12, 24⟩) [.Constant (.str "invalid question") 0 ⟨12, 25, 12, 43⟩] [] ⟨12, 8, 12, 44⟩) ⟨12, 8, 12, 44⟩,
   .Assign [.Attribute (.Name "self" ⟨13, 8, 13, 12⟩) "at" ⟨13, 8, 13, 15⟩] (.Name "at" ⟨13, 18, 13, 20⟩) ⟨13, 8, 13, 20⟩]
def iqS : Scope := { kind := .function, names := [(PySem.Str.ofString "self", .local), (PySem.Str.ofString "at", .local), (PySem.Str.ofString "__class__", .free), (PySem.Str.ofString "super", .globalImplicit)], isGenerator := false, isCoroutine := false, more := [] }
/-- what the written part says of the class at C, of its __init__ at fI -/
structure IqTxt (P : Program) (K : Frag) (mg : Str → Option Value) (C fI cda cc : Addr) : Prop where
  gC : mg "InvalidQuestion" = some (.ref C)
  cls : ∃ nm q N bs bm sn sub ab col dd k0 k1 k2 k3 k5, K.lookup C = some (excClassObj nm q C N bs bm true sn sub ab col dd k0 k1 k2 k3 k5 "ValueError.__new__") ∧ PySem.HandSPX.refsVE bm = true
  sa : PySem.W.findIn K (.ref C) "__setattr__" = some (some (.builtin "object.__setattr__"))
  ga : PySem.W.findIn K (.ref C) "__getattribute__" = some (some (.builtin "BaseException.__getattribute__"))
  gg : PySem.W.findIn K (.ref C) "__getattr__" = some none
  noN : PySem.W.findIn K (.ref C) "at" = some none
  iC : PySem.W.findIn K (.ref C) "__init__" = some (some (.ref fI))
  tC : PySem.W.typeIn K (.ref fI) = some (.type "function")
  kC : PySem.W.keepIn K (.ref C) = true
  exC : PySem.W.subIn K (.ref C) (.type "BaseException") = some true
  veC : PySem.W.subIn K (.ref C) (.type "ValueError") = some true
  tyC : PySem.W.typeIn K (.ref C) = some (.type "type")
  hdC : PySem.W.hasDictIn K C = true
  mroC : PySem.W.mroIn K C (.ref C) = some true
  sup : mg "super" = none
  thi : PySem.W.nsIn K cStatics "thirdparty.any" = some none
  supC : PySem.W.ks_superIn K C C "__init__" = some (some (.builtin "ValueError.__init__"))
  cell : ∃ c0 d0 s0, K.lookup cc = some ⟨c0, d0, .cell (some (.ref C)), s0⟩
  code : ∃ c0 d0 vs s0 file tf, K.lookup cda = some ⟨c0, d0, .fields vs, s0⟩ ∧ vs[2]? = some (.str file tf) ∧ ((P.main.file : Str) == file) = true
  top : (P.main.scope.names.lookup ("super" : Str)).isSome = false
  fn : ∃ (oc : Value) (od : Option Addr) (doc pm : Value) (an : Option Addr) (ct : Value) (osl : Array (Option Value)),
    K.lookup fI = some ⟨oc, od, .func (PySem.W.ksFn "__init__" "InvalidQuestion.__init__" iqA iqB iqS .none .none doc pm an (.ref cda) ct cc), osl⟩ ∧ PySem.W.codeIn K (.ref cda) "InvalidQuestion.__init__" = true
open PySem.HandSPX (excO)
open PySem.W (kxs_mw KxsAt)
theorem boot_super : bootBuiltins "super" = some (.type "super") := by decide +kernel
/-- what the making of the exception leaves -/
structure IqEnd (h h' : Heap) (x C dx t1 : Addr) (v : Value) : Prop where
  keep : ∀ b o, b ≠ x → h.get? b = some o → h'.get? b = some o
  obj : h'.get? x = some { cls := .ref C, dict := some dx, data := .fields #[.ref t1, .none, .none, .none, .bool false, .none] }
  dbig : h.objs.size ≤ dx
  dne : dx ≠ x
  ns : h'.Ns1 dx (fun y => if y = "at" then some v else none)
section
variable {P : Program} {w : World} {A : Around} {E : Value → Shared → Prop} {R : Result → Shared → Prop} {s : Shared} {K : Frag} {mg mb : Str → Option Value} {C fI cda cc : Addr}
/-- the bound built-in __init__, called -/
theorem iq_base (T : IqTxt P K mg C fI cda cc) {u x t0 : Addr} {rest : List Value} {Q : Value → Shared → Prop} (X : K.In s.heap) (hx : s.heap.get? x = some (excO C t0)) (hu : KxsAt "ValueError.__init__" u x s.heap) (hz : rest.length ≤ sizeLine)
    (h : ∀ h' t1, (∀ b o, b ≠ x → s.heap.get? b = some o → h'.get? b = some o) → s.heap.objs.size ≤ h'.objs.size → h'.get? x = some (excO C t1) → Q .none { s with heap := h' }) : wpAny (model P w) A (call (.ref u) rest) Q E s := by
  obtain ⟨nm, q, N, bs, bm, sn, sub, ab, col, dd, k0, k1, k2, k3, k5, hC, hbm⟩ := T.cls
  have hu : s.heap.get? u = some (kxs_mw "ValueError.__init__" x) := hu
  obtain ⟨hh, g, d, tk, os⟩ := s
  refine wpAny_call (codeAny_of_tree ?_)
  show wpAny _ A.in1 (callAny (.ref u) ⟨rest, []⟩) _ _ _
  simp only [callAny]
  refine wpAny_bind (wpAny_load hu ?_)
  simp only [kxs_mw, show (Value.type "method-wrapper" == Value.type "method" || Value.type "method-wrapper" == Value.type "builtin_function_or_method" || Value.type "method-wrapper" == Value.type "method-wrapper") = true by decide, if_true]
  refine PySem.W.KFB.if_so (by decide) ?_
  refine wpAny_bind (PySem.W.check_bound_init PySem.F.excBase_ValueError.toExcCallFacts (X _ _ hC) hx rfl ?_)
  refine wpAny_bind (wpAny_pure (wpAny_pure ?_))
  refine ⟨plainId_quiet PySem.F.excBase_ValueError.init.plain _, codeAny_builtin PySem.F.excBase_ValueError.initEntry ?_⟩
  exact PySem.W.exc_init_tree (cls := .ref C) (t0 := t0) (dv := none) (c2 := .none) (c3 := .none) (b4 := .bool false) hx hz fun h' k' e' t' => h h' _ k' (Nat.le_of_lt (Heap.lt_size t')) e'
theorem iq_init (T : IqTxt P K mg C fI cda cc) {x t0 : Addr} {v : Value} (X : K.In s.heap) (hgl : s.heap.Ns mainGlobals mg) (hbl : s.heap.Ns builtinsNs mb) (hbb : ∀ x : Str, x ≠ "__name__" → mb x = bootBuiltins x) (hlim : s.heap.NoLimit)
    (hx : s.heap.get? x = some (excO C t0)) (hnx : K.lookup x = none) (hroom : A.depth < recursionLimit)
    (hq : ∀ h' tk dx t1, IqEnd s.heap h' x C dx t1 v → R (.ok (.ret .none)) { s with heap := h', toks := tk }) : codeAny (model P w) A (.call (.ref fI) ⟨[.ref x, v], []⟩) R s := by
  obtain ⟨oc, od, doc, pm, an, ct, osl, ho, hcd⟩ := T.fn
  obtain ⟨nm, q, N, bs, bm, sn, sub, ab, col, dd, k0, k1, k2, k3, k5, hC, hbm⟩ := T.cls
  obtain ⟨c1, d1, s1, hcell⟩ := T.cell
  obtain ⟨c2, d2, vs, s2, file, tf, hcode, hvs, hfile⟩ := T.code
  have hcl : PySem.W.clsIn K C = some { name := nm, bases := bs, mro := .ref C :: bm, ns := N, qualname := q, hasDict := true, slotNames := sn, subclasses := sub, abstract := ab, collection := col, hasDel := false } := by unfold PySem.W.clsIn; rw [hC] <;> rfl
  obtain ⟨hp, g, d, tk, os⟩ := s
  refine ks_codeAny_call_defAt (binds := [("self", .ref x), ("at", v)]) hroom (X _ _ ho) rfl hlim (PySem.W.codeRec_of X hcd) rfl (BindsTo.of_eq (by first | rfl | with_unfolding_all rfl)) (show ∀ y ∈ iqS.names, y.2 ≠ .cell by decide) (fun y hy => ?_) fun h1 hns k1 => ?_
  · rcases List.mem_cons.mp hy with rfl | hy
    · rfl
    · rw [List.mem_singleton.mp hy]
      rfl
  have hn : h1.Ns hp.objs.size (fun y => ([("self", Value.ref x), ("at", v)] : List (Str × Value)).reverse.lookup y) := hns
  have X1 : K.In h1 := X.keeps k1
  have hx1 := k1 _ _ hx
  have xL : x ≠ hp.objs.size := Nat.ne_of_lt (Heap.lt_size hx)
  generalize henv : callEnv (PySem.W.ksFn "__init__" "InvalidQuestion.__init__" iqA iqB iqS .none .none doc pm an (.ref cda) ct cc) (Shared.heap ⟨hp, g, d, tk, os⟩).objs.size fI = env
  have e1 : env = PySem.W.ksEnv "InvalidQuestion.__init__" iqS hp.objs.size fI (.ref cda) cc := henv.symm
  subst e1
  refine ks_wpAt_execs_cons (ks_wpAt_Expr_any (ks_wpAt_MethodCall ?_))
  refine ks_wpAt_super_base (prog := P) (attr := "__init__") (fd := PySem.W.ksFn "__init__" "InvalidQuestion.__init__" iqA iqB iqS .none .none doc pm an (.ref cda) ct cc) rfl rfl (by decide) rfl (X1 _ _ ho) rfl rfl rfl (X1 _ _ hcode) rfl hvs hfile T.top ?_
  refine PySem.W.ks_loadName_global rfl rfl (PySem.Calls.loadGlobal_builtin (env := PySem.W.ksEnv "InvalidQuestion.__init__" iqS hp.objs.size fI (.ref cda) cc) (hgl.keeps k1) T.sup (hbl.keeps k1) ((hbb _ (by decide +kernel)).trans boot_super) ⟨rfl, ?_⟩)
  refine wpAny_loadName_free rfl rfl rfl ⟨_, X1 _ _ hcell, rfl⟩ ?_
  refine wpAny_loadName_local (v := .ref x) rfl rfl hn rfl ?_
  refine ks_wpAny_isType_cls (X1 _ _ hC) rfl ⟨rfl, ?_⟩
  have xC : x ≠ C := fun z => by rw [z, hC] at hnx; cases hnx
  refine ks_wpAny_call_super (X1 _ _ hC) rfl hx1 rfl (fun c z => by cases z) (PySem.W.looks_mroIn X1 T.mroC) fun h2 e2 k2 => ?_
  have X2 : K.In h2 := X1.keeps k2
  have hx2 := k2 _ _ hx1
  have hn2 := hn.keeps k2
  have hsupC := T.supC
  unfold PySem.W.ks_superIn at hsupC
  rw [hcl] at hsupC
  have I2 : PySem.W.InstAt h2 x (excO C t0) C none := ⟨hx2, rfl, rfl, trivial⟩
  refine PySem.W.kxs_getMethod PySem.W.kxs_ValueError e2 (PySem.W.looks_opaque X2 T.thi) (l₀ := .ref C :: bm) (fun A Q E s k q => wpAny_bind ((PySem.W.looks_clsIn X2 hcl) A _ E s k (wpAny_pure q))) rfl X2 hsupC (I2.type.andThen (PySem.W.looks_subIn X2 T.veC)) xC (by decide) ?_
  have k3 : ∀ b o, h2.get? b = some o → (h2.push (kxs_mw "ValueError.__init__" x)).get? b = some o := fun b o e => Heap.get?_push_of_some _ e
  have eu : (h2.push (kxs_mw "ValueError.__init__" x)).get? h2.objs.size = some (kxs_mw "ValueError.__init__" x) := Heap.get?_push_size _ rfl
  generalize h2.push (kxs_mw "ValueError.__init__" x) = h3 at k3 eu ⊢
  have X3 : K.In h3 := X2.keeps k3
  refine PySem.W.kxs_callWith (i := "ValueError.__init__") (x := x) rfl (PySem.Calls.evalArgs_plain (PySem.Calls.spliced_cons (PySem.Calls.Constant_str (k := 0) (pos := ⟨12, 25, 12, 43⟩) (PySem.Calls.spliced_nil ⟨eu, ?_⟩))))
  refine iq_base T X3 (k3 _ _ hx2) eu (by show 1 ≤ sizeLine; decide) fun h4 t1 k4 hz4 hx4 => ?_
  have kk : ∀ b o, b ≠ x → hp.get? b = some o → h4.get? b = some o := fun b o hb e => k4 b o hb (k3 _ _ (k2 _ _ (k1 _ _ e)))
  have X4 : K.In h4 := fun b o e => k4 b o (fun z => by rw [z, hnx] at e; cases e) (X3 b o e)
  have hn4 : h4.Ns hp.objs.size (fun y => ([("self", Value.ref x), ("at", v)] : List (Str × Value)).reverse.lookup y) := by
    obtain ⟨oL, es, ep, hL, r⟩ := hn2
    exact ⟨oL, es, ep, k4 _ _ xL.symm (k3 _ _ hL), r⟩
  refine ks_wpAt_execs_cons (wpAt_of_wpAny (plainObj_wpAny_Assign_Attribute ?_))
  refine wpAny_Name (wpAny_loadName_local (v := v) rfl rfl hn4 rfl ?_) (by decide)
  refine wpAny_Name (wpAny_loadName_local (v := .ref x) rfl rfl hn4 rfl ?_) (by decide)
  refine PySem.W.set_plain X4 (ox := excO C t1) (od := none) ⟨hx4, rfl, rfl, trivial⟩ T.sa ?_
  refine PySem.HandSPX.exc_osa X4 hx4 hcl (show PySem.HandSPX.refsVE (.ref C :: bm) = true from hbm) rfl T.noN (fun h5 tk5 dx k5 dn dne hx5 hn5 => ?_)
  refine wpAt_of_wpAny (wpAny_execs_nil (hq h5 tk5 dx t1 ⟨fun b o hb e => k5 b o hb (kk b o hb e), hx5, ?_, dne, hn5⟩))
  have z : hp.objs.size < h4.objs.size := hn4.lt
  exact Nat.le_of_lt (Nat.lt_of_lt_of_le z dn)
/-- a made InvalidQuestion -/
structure IqMade (h h' : Heap) (e C d : Addr) (v : Value) : Prop where
  keep : ∀ b o, h.get? b = some o → h'.get? b = some o
  new : h.objs.size ≤ e
  obj : ∃ oe vs, h'.get? e = some oe ∧ oe.cls = .ref C ∧ oe.dict = some d ∧ oe.data = .fields vs ∧ vs[1]? = some .none
  dbig : h.objs.size ≤ d
  dne : d ≠ e
  ns : h'.Ns1 d (fun y => if y = "at" then some v else none)
theorem iq_made (T : IqTxt P K mg C fI cda cc) {v : Value} (X : K.In s.heap) (hgl : s.heap.Ns mainGlobals mg) (hbl : s.heap.Ns builtinsNs mb) (hbb : ∀ x : Str, x ≠ "__name__" → mb x = bootBuiltins x) (hlim : s.heap.NoLimit) (hroom : A.depth + 1 < recursionLimit)
    (hq : ∀ h' tk e d, IqMade s.heap h' e C d v → R (.ok (.ret (.ref e))) { s with heap := h', toks := tk }) : codeAny (model P w) A (.call (.ref C) ⟨[v], []⟩) R s := by
  obtain ⟨nm, q, N, bs, bm, sn, sub, ab, col, dd, k0, k1, k2, k3, k5, hC, hbm⟩ := T.cls
  obtain ⟨hp, g, dr, tk, os⟩ := s
  have k : ∀ b o, hp.get? b = some o → ((hp.push (PySem.W.kdv_tup [v])).push (excO C hp.objs.size)).get? b = some o := fun b o e => Heap.get?_push_of_some _ (Heap.get?_push_of_some _ e)
  have got : ((hp.push (PySem.W.kdv_tup [v])).push (excO C hp.objs.size)).get? (hp.objs.size + 1) = some (excO C hp.objs.size) := by heap_get
  have hnx : K.lookup (hp.objs.size + 1) = none := by
    cases e : K.lookup (hp.objs.size + 1) with
    | none => rfl
    | some o =>
      have z : hp.get? (hp.objs.size + 1) = some o := X _ _ e
      exact absurd (Nat.lt_of_succ_lt (Heap.lt_size z)) (Nat.lt_irrefl _)
  refine PySem.HandSPX.call_own PySem.F.excBase_ValueError (fun Y => PySem.HandSPX.refsVE_contains Y bm hbm) (X _ _ hC) (PySem.W.looks_findIn X T.iC) (fun self => PySem.W.bind_fn X self T.tC) (by show 1 ≤ sizeLine; decide) ?_
  refine iq_init (mb := mb) (s := ⟨(hp.push (PySem.W.kdv_tup [v])).push (excO C hp.objs.size), g, dr, tk, os⟩) T (X.keeps k) (hgl.keeps k) (hbl.keeps k) hbb (hlim.keeps k) got hnx ?_ fun h' tk' dx t1 ⟨k', hx, dn, dne, hns⟩ => ?_
  · show A.depth + 1 < recursionLimit
    exact hroom
  · have old : ∀ b o, hp.get? b = some o → h'.get? b = some o := fun b o e => k' b o (Nat.ne_of_lt (Nat.lt_succ_of_lt (Heap.lt_size e))) (k b o e)
    have z : hp.objs.size + 1 + 1 ≤ dx := by
      first
        | (simpa only [Heap.size_push] using dn)
        | exact dn
        | (have q := dn; rw [Heap.size_push, Heap.size_push] at q; exact q)
    exact ⟨rfl, hq h' tk' (hp.objs.size + 1) dx ⟨old, Nat.le_succ _, ⟨_, _, hx, rfl, rfl, rfl, rfl⟩, Nat.le_trans (Nat.le_trans (Nat.le_succ _) (Nat.le_succ _)) z, dne, hns⟩⟩
end
end Bw
end
section
set_option Elab.async false
set_option linter.all false
set_option maxRecDepth 100000
set_option maxHeartbeats 4000000
/-! raise InvalidQuestion(n); its number read; a try with two named clauses. -/
namespace Bw
open PySem PySem.Spec PyProof.Rows L2
def xdAt (v : V) : HO := .xd [(("at" : Str), v)]
theorem relO_at {v : V} {v' : Value} (r : RelV v v') (f : Str) : RelO (List.lookup f [(("at" : Str), v)]) (if f = "at" then some v' else none) := by
  by_cases hw : f = "at"
  · subst hw
    rw [if_pos rfl]
    have q : List.lookup ("at" : Str) [(("at" : Str), v)] = some v := by simp [List.lookup]
    rw [q]
    exact r
  · rw [if_neg hw]
    have qw : (f == ("at" : Str)) = false := by simpa using hw
    have q2 : List.lookup f [(("at" : Str), v)] = none := by simp [List.lookup, qw]
    rw [q2]
    trivial
section
variable {X : Cx} {C fI cda cc : Addr}
/-- InvalidQuestion(e) -/
def tIq (C : Addr) (ta : TA) : L2.St → Hp → XK → Prop := fun σ H Q => ta σ H fun vs H1 => ∃ v, vs = [v] ∧ ∀ d, H1 d = none → Q (.ref C) (some d) (upd H1 d (xdAt v))
theorem pmk_iq {a : Expr} {ta : TA} {p pos : Pos} {k : Nat} (T : IqTxt X.prog X.K X.mg C fI cda cc) (hr : Room k X.A) (ha : PA X [a] ta) (hg : Gl X "InvalidQuestion" := by rfl)
    (he : starEach (a :: []) X.env = (false, eval a X.env) :: starEach [] X.env := by rfl) (hpl : (backTo pos (starEach [] X.env)).any (·.1) = false := by rfl) :
    PMk X (.Call (.Name "InvalidQuestion" p) [a] [] pos) (tIq C ta) := by
  intro pins s σ H Q I h
  refine wpAny_Call_Name_kw (ld_glob I hg T.gC ?_)
  refine PySem.W.callWith_K (h₀ := X.base) I.ok.mod.kin T.kC (thn (ha.run pos pins s σ H _ I h) fun us s1 hh => ?_) he hpl
  obtain ⟨vs, H1, I1, r1, v, ev, q1⟩ := hh
  subst ev
  refine ⟨I1.kIn, ?_⟩
  cases r1 with
  | cons rv rn =>
    rename_i v' us'
    cases rn
    show wpAny _ _ (call (.ref C) [v']) _ _ _
    have hlim := I1.nolimit
    have KI := I1.kIn
    have md := I1.ok.mod
    obtain ⟨mb, hb1, hb2⟩ := md.blt
    have gl1 := md.glob.keeps I1.bk
    have bl1 := hb1.keeps I1.bk
    obtain ⟨hp, g, dr, tk, os⟩ := s1
    refine wpAny_call (iq_made (mb := mb) T KI gl1 bl1 hb2 hlim (by have := hr.dp; omega) fun h' tk' e d M => ?_)
    show MkP X pins σ Q (.ref e) ⟨h', g, dr, tk', os⟩
    obtain ⟨oe, fv, hoe, hc, hd, hdat, h1⟩ := M.obj
    have hns := M.ns
    obtain ⟨G', g1, g2⟩ := L2.restrict h' fun b => decide (b ≠ e)
    have gk : ∀ b, b ≠ e → G'.get? b = h'.get? b := fun b hb => g1 b (decide_eq_true hb)
    have ge : G'.get? e = none := g2 e (by simp)
    have old : ∀ b o, hp.get? b = some o → G'.get? b = some o := fun b o q => (gk b (Nat.ne_of_lt (Nat.lt_of_lt_of_le (Heap.lt_size q) M.new))).trans (M.keep b o q)
    have ob : ObjOk X.prog X.w (upd H1 d (xdAt v)) G' d (xdAt v) :=
      ⟨_, hns.at (fun o q => (gk d M.dne).trans q), fun f => relO_at rv f⟩
    have J : L2.Inv X pins σ (upd H1 d (xdAt v)) ⟨G', g, dr, tk', os⟩ := I1.laid (t' := tk') old M.dbig ob
    refine ⟨e, oe, fv, ⟨G', g, dr, tk', os⟩, _, .ref C, some d, rfl, J, fun b o q => ?_, ge, hoe, ⟨hc, hd⟩, hdat, h1, ?_, rfl, I1.bare, raises_own T.exC T.tyC, q1 d (I1.hok.fresh M.dbig)⟩
    · by_cases hb : b = e
      · have q' : G'.get? b = some o := q
        rw [hb, ge] at q'; cases q'
      · exact (gk b hb).symm.trans q
    · rw [upd_ne (Ne.symm M.dne)]
      exact I1.hok.fresh M.new
def tRaiseIq (C : Addr) (W : WX) (ta : TA) : TS := fun _ σ H => tIq C ta σ H fun cls d H' => W cls d σ H'
theorem ps_raiseIq {a : Expr} {ta : TA} {W : WX} {p pos pos2 : Pos} {k : Nat} (hc : X.calm = true) (T : IqTxt X.prog X.K X.mg C fI cda cc) (hr : Room k X.A) (tk : Takes X W) (ha : PA X [a] ta) (hg : Gl X "InvalidQuestion" := by rfl)
    (he : starEach (a :: []) X.env = (false, eval a X.env) :: starEach [] X.env := by rfl) (hpl : (backTo pos (starEach [] X.env)).any (·.1) = false := by rfl) :
    PS X (.Raise (some (.Call (.Name "InvalidQuestion" p) [a] [] pos)) none pos2) (tRaiseIq C W ta) := ps_raise hc tk (pmk_iq T hr ha hg he hpl)
/-- late.at, late the exception that the suite holds (at a; its class cls, its dict d) -/
def tAtIq (C : Addr) (a : Addr) (cls : Value) (d : Option Addr) (te : TE) : TE := fun σ H Q => te σ H fun x H1 => x = .ref a ∧ cls = .ref C ∧ ∃ (dd : Addr) (v : V), d = some dd ∧ H1 dd = some (xdAt v) ∧ Q v H1
theorem pe_atIq {a : Addr} {oe : Obj} {cls : Value} {d : Option Addr} {pn : List (Addr × Obj)} {e : Expr} {te : TE} {pos : Pos} (T : IqTxt X.prog X.K X.mg C fI cda cc) (hz : Zc cls d oe) (hf : ∃ vs, oe.data = .fields vs) (he : PE (X.suite a ((a, oe) :: pn)) e te)
    (hb : attributeBase e "at" X.env (eval e X.env) = eval e X.env := by rfl) : PE (X.suite a ((a, oe) :: pn)) (.Attribute e "at" pos) (tAtIq C a cls d te) := by
  refine ⟨fun pins s σ H Q I h => ?_⟩
  refine attr_of hb (thn (he.run pins s σ H _ I h) fun u s1 hh => ?_)
  obtain ⟨x, H1, I1, rx, ex, ec, dd, v, ed, ea, q⟩ := hh
  subst ex
  obtain rfl : u = Value.ref a := rx
  subst ec
  subst ed
  obtain ⟨ha, _⟩ := I1.pin (a, oe) (List.mem_append_left _ List.mem_cons_self)
  obtain ⟨vs, hd⟩ := hf
  have hx : ObjOk X.prog X.w H1 s1.heap dd (xdAt v) := I1.hok dd _ ea
  obtain ⟨mA, hns, hr⟩ := hx
  obtain ⟨od, ho, hl⟩ := lookIn_ns hns
  have l : List.lookup ("at" : Str) [(("at" : Str), v)] = some v := by simp [List.lookup]
  obtain ⟨u, hu, ru⟩ := RelO.some_of (v := v) (o := mA "at") (by rw [← l]; exact hr "at")
  have J : PySem.W.InstAt s1.heap a oe C (some od) := ⟨ha, hz.1, by unfold PySem.W.notCls; rw [hd] <;> rfl, by rw [hz.2]; exact ho⟩
  exact PySem.HandSPX.exc_get I1.kIn J T.ga T.gg T.exC (PySem.W.findObj_own T.hdC T.noN rfl (by rw [hl, hu])) (handed_of ru) ⟨v, H1, I1.tok _, ru, q⟩
end
/-! ### a try with two named clauses: the first one is passed, the second one taken -/
def wTwo (K : PySem.W.Frag) (c1 c2 : Value) (i : Nat) (ts : Addr → Value → Option Addr → TS) (D : Ends) : WX := fun cls d σ H =>
  PySem.W.exmOne K cls c1 = some false ∧ PySem.W.exmOne K cls c2 = some true ∧
    ∀ a, H a = none → i < σ.length → ts a cls d { nx := fun σ' H' => D.nx (σ'.set i none) H', rt := D.rt, bk := fun σ' H' => D.bk (σ'.set i none) H', ct := fun σ' H' => D.ct (σ'.set i none) H' } (σ.set i (some (.ref a))) H
section
variable {X : Cx} {x1 x2 n1 n2 : Str} {c1 c2 : Value} {i : Nat} {body suite1 suite2 : List Stmt} {b1 b2 : Stmt} {np1 np2 pos pos1 pos2 : Pos} {tb : WX → TS} {ts : Addr → Value → Option Addr → TS}
theorem ps_try_two (hs : X.stack = X.env :: X.outer) (hf : X.env.frame = some X.env.locals) (hN : X.N.Nodup) (hi : X.N[i]? = some n2) (hln : X.env.kindOf n2 = some .local) (hc1 : Names X x1 c1) (hc2 : Names X x2 c2)
    (hb : ∀ (W : WX) (pn : List (Addr × Obj)) (xe : Value → Shared → Prop), Takes (X.tr pn xe) W → PassesOwn (model X.prog X.w) X.A X.env xe → PSs (X.tr pn xe) body (tb W))
    (hsu : ∀ (a : Addr) (oe : Obj) (cls : Value) (d : Option Addr) (pn : List (Addr × Obj)), Zc cls d oe → (∃ vs, oe.data = .fields vs) → PSs (X.suite a ((a, oe) :: pn)) (b2 :: suite2) (ts a cls d)) :
    PS X (.Try body [.ExceptHandler (some (.Name x1 np1)) (some n1) (b1 :: suite1) pos1, .ExceptHandler (some (.Name x2 np2)) (some n2) (b2 :: suite2) pos2] [] [] pos) (fun D σ H => tb (wTwo X.K c1 c2 i ts D) D σ H) := by
  refine ⟨fun pins s σ H D I h => ?_⟩
  have okX := I.ok
  have frX : X.A.frames = some (X.env :: X.outer) := by rw [okX.frames, hs]
  have locX : Loc X.env.scope n2 := .inl hln
  refine wpAny_Try_except ?_
  refine wpAny_mono ((hb (wTwo X.K c1 c2 i ts D) (X.pn ++ pins) (fun e u1 => wpAny (model X.prog X.w) X.A (noteFrame e X.env) (fun _ u2 => wpAny (model X.prog X.w) X.A (setFlight e none) (fun _ u3 =>
    wpAny (model X.prog X.w) X.A (handleBy e X.env [.ExceptHandler (some (.Name x1 np1)) (some n1) (b1 :: suite1) pos1, .ExceptHandler (some (.Name x2 np2)) (some n2) (b2 :: suite2) pos2]) (SP X pins D) X.xe u3) X.xe u2) X.xe u1) (fun u t0 xx => ?_) PassesOwn.looking).run [] s σ H D (I.toTry _) h) (fun f t1 hsp => ?_) (fun e t1 he => he)
  · obtain ⟨a, B, sI, pins', σ', H', cls, d, rfl, J', nb, up, sky, na, os, ag, m1, m2, hyes⟩ := xx
    have J : L2.Inv X pins σ' H' sI := J'.ofTry okX
    have sky2 : Sky B (X.env :: X.outer) a (Zc cls d) X.env.locals t0.heap := by rw [← hs]; exact sky
    show wpAny (model X.prog X.w) X.A (noteFrame (.ref a) X.env) _ _ _
    refine Sky.land Zc.steady frX hf sky2 fun h3 fl3 up3 => ?_
    have J3 : L2.Inv X pins σ' H' { t0 with heap := h3 } := J.landed nb fl3.1 (up.trans up3) os ag
    obtain ⟨oe3, vs3, he3, hz3, hd3⟩ := fl3.there
    have notFr : ∀ {h : Heap} {o : Obj} {vs : Array Value}, h.FunFrames B (X.env :: X.outer) → h.get? a = some o → o.data = .fields vs → a ∉ frs (X.env :: X.outer) := fun {h o vs} ff e dd hm => by
      obtain ⟨_, o', e', hnf⟩ := ff.mem hm
      rw [e] at e'
      cases e'
      exact hnf _ dd
    have nfr := notFr fl3.2.2.1 he3 hd3
    have nL : a ≠ X.env.locals := fun z => nfr (List.mem_filterMap.mpr ⟨X.env, List.mem_cons_self, by rw [hf, z]⟩)
    have nF : a ∉ X.fs := fun hm => by
      obtain ⟨e, he, q⟩ := List.mem_filterMap.mp hm
      exact nfr (List.mem_filterMap.mpr ⟨e, List.mem_cons_of_mem _ he, q⟩)
    have S3 := J3.suite he3 hd3 na nL nF
    have LT : PySem.W.Looks (model X.prog X.w) h3 (typeOf (.ref a)) cls := fun A Q E s k q => wpAny_typeOf_ref (k _ _ he3) (by rw [hz3.1]; exact q)
    have test : ∀ {x : Str} {c : Value} {np : Pos} {Q : Value → Shared → Prop} {E : Value → Shared → Prop}, Names X x c → Q c { t0 with heap := h3 } → wpAny (model X.prog X.w) (X.A.mark (some (.ref a))) (eval (.Name x np) X.env) Q E { t0 with heap := h3 } := fun {x c np Q E} hc q => by
      obtain ⟨hg, hdbg, hm | ⟨hm, hv, hnn⟩⟩ := hc
      · exact ld_glob (X := X.suite a ((a, oe3) :: (X.pn ++ pins))) S3 hg hm q hdbg
      · exact ld_blt (X := X.suite a ((a, oe3) :: (X.pn ++ pins))) S3 hg hm hv q hnn hdbg
    refine wpAny_handleBy_cons (codeAny_handlers_test ?_) (by intro q; cases q)
    refine test hc1 ((PySem.W.exm_one (M := model X.prog X.w) J3.kIn LT m1).here ?_)
    show wpAny _ X.A (handleBy (.ref a) X.env [.ExceptHandler (some (.Name x2 np2)) (some n2) (b2 :: suite2) pos2]) _ _ _
    refine wpAny_handleBy_cons (codeAny_handlers_test ?_) (by intro q; cases q)
    refine test hc2 ((PySem.W.exm_one (M := model X.prog X.w) J3.kIn LT m2).here ?_)
    refine codeAny_handlers_suite_as ?_
    refine PySem.HandSPX.lands_againZ fl3 fun h4 fl4 up4 => ?_
    have J4 : L2.Inv X pins σ' H' { t0 with heap := h4 } := J.landed nb fl4.1 ((up.trans up3).trans up4) os ag
    obtain ⟨oe4, vs4, he4, hz4, hd4⟩ := fl4.there
    have S4 := J4.suite he4 hd4 na nL nF
    refine store_ok (X := X.suite a ((a, oe4) :: (X.pn ++ pins))) (v := .ref a) S4 hN hi locX rfl (fun t5 S5 => ?_) (.inr hln)
    refine wpAny_mono ((hsu a oe4 cls d (X.pn ++ pins) hz4 ⟨_, hd4⟩).run [] t5 _ H' _ S5 (hyes a na (by rw [J'.len]; exact (List.getElem?_eq_some_iff.mp hi).1))) (fun f t6 hsp => ?_) (fun _ _ z => False.elim z)
    have over : ∀ {σ6 : L2.St} {H6 : Hp} {Q : Shared → Prop}, L2.Inv (X.suite a ((a, oe4) :: (X.pn ++ pins))) [] σ6 H6 t6 → (∀ t7, L2.Inv X pins (σ6.set i none) H6 t7 → Q t7) →
        wpAny (model X.prog X.w) X.A (do bindName X.env n2 .none; unbindBehindTheSuite X.env n2 pos2) (fun _ t7 => Q t7) X.xe t6 := fun {σ6 H6 Q} S6 hq => gone_ok (S6.unsuite okX) hN hi hln hq
    cases f with
    | next =>
      obtain ⟨σ6, H6, S6, q6⟩ := hsp
      exact over S6 fun t7 J7 => ⟨_, _, J7, q6⟩
    | brk =>
      obtain ⟨σ6, H6, S6, q6⟩ := hsp
      exact over S6 fun t7 J7 => ⟨_, _, J7, q6⟩
    | cont =>
      obtain ⟨σ6, H6, S6, q6⟩ := hsp
      exact over S6 fun t7 J7 => ⟨_, _, J7, q6⟩
    | ret u =>
      obtain ⟨v6, σ6, H6, S6, r6, q6⟩ := hsp
      exact over S6 fun t7 J7 => ⟨_, _, _, J7, r6, q6⟩
  · cases f with
    | next =>
      obtain ⟨σ2, H2, J2, q⟩ := hsp
      exact wpAny_execs_nil ⟨σ2, H2, J2.ofTry okX, q⟩
    | brk =>
      obtain ⟨σ2, H2, J2, q⟩ := hsp
      exact ⟨σ2, H2, J2.ofTry okX, q⟩
    | cont =>
      obtain ⟨σ2, H2, J2, q⟩ := hsp
      exact ⟨σ2, H2, J2.ofTry okX, q⟩
    | ret u =>
      obtain ⟨v, σ2, H2, J2, r, q⟩ := hsp
      exact ⟨v, σ2, H2, J2.ofTry okX, r, q⟩
end
end Bw
end
section
set_option Elab.async false
set_option linter.all false
set_option maxRecDepth 100000
set_option maxHeartbeats 8000000
/-! accords that are none: check_accords and handed_on raise. -/
namespace Bw
open PySem PySem.Spec PyProof.Rows L2 Bfb
local macro_rules | `(tactic| walk_at "ex") => `(tactic| first
  | assumption
  | exact Ex.refl _
  | (refine Ex.trans ?_ (by assumption); walk_at "ex"))
local macro_rules | `(tactic| walk_at "om") => `(tactic| first | omega | assumption | (left; constructor <;> omega) | (right; constructor <;> omega) | decide)
local macro_rules | `(tactic| walk_at "ln") => `(tactic| first | decide | (simp only [List.length_cons, List.length_nil, List.length_append, List.length_map]; omega))
local macro_rules | `(tactic| walk_at "rd") => `(tactic| first
  | with_reducible exact rd_plus
  | with_reducible exact rd_sub
  | with_reducible exact rd_lt
  | with_reducible exact rd_le
  | with_reducible exact rd_gt
  | with_reducible exact rd_ge
  | with_reducible exact rd_eqI
  | with_reducible exact rd_neI
  | ((with_reducible apply rd_eqD); rfl; rfl)
  | ((with_reducible apply rd_neD); rfl; rfl)
  | ((with_reducible apply rd_mul); walk_at "om")
  | ((with_reducible apply rd_div); walk_at "om"; walk_at "om")
  | ((with_reducible apply rd_mod); walk_at "om")
  | ((with_reducible apply rd_divW); walk_at "om"; walk_at "om")
  | ((with_reducible apply rd_ixT); rfl)
  | ((with_reducible apply rd_ixL); rfl)
  | with_reducible exact rd_isNi
  | with_reducible exact rd_isNn
  | with_reducible exact rd_isNt
  | with_reducible exact rd_notNn)
local macro_rules | `(tactic| walk_at "ev") => `(tactic| first
  | with_reducible exact evd_int
  | ((with_reducible apply evd_varI); rfl)
  | ((with_reducible apply evd_varB); rfl)
  | ((with_reducible apply evd_var); rfl; assumption; walk_at "ex")
  | with_reducible exact evd_bl
  | with_reducible exact evd_non
  | with_reducible exact evd_str
  | ((with_reducible apply evd_op); walk_at "ev"; walk_at "ev"; walk_at "rd")
  | ((with_reducible apply evd_tup); walk_at "ea"; walk_at "ln")
  | ((with_reducible apply evd_lst); walk_at "ea"; walk_at "ln")
  | ((with_reducible apply evd_isInt); walk_at "ev")
  | ((with_reducible apply evd_isBool); walk_at "ev")
  | ((with_reducible apply evd_isTuple); walk_at "ev")
  | ((with_reducible apply evd_cb); walk_at "ea"; walk_at "rc")
  | with_reducible exact evd_neg1
  | ((with_reducible apply evd_notV); walk_at "ev")
  | ((with_reducible apply evd_call); walk_at "ea"; assumption))
local macro_rules | `(tactic| walk_at "ea") => `(tactic| first
  | with_reducible exact evda_nil
  | ((with_reducible apply evda_cons); walk_at "ev"; walk_at "ea")
  | ((with_reducible apply evda_starT); walk_at "ev"; walk_at "ea")
  | ((with_reducible apply evda_starL); walk_at "ev"; walk_at "ea"))
local macro_rules | `(tactic| walk_at "rc") => `(tactic| first
  | with_reducible exact rc_len
  | with_reducible exact rc_lenT
  | with_reducible exact rc_tupL
  | with_reducible exact rc_tupT
  | with_reducible exact rc_listL
  | with_reducible exact rc_listT
  | with_reducible exact rc_min2
  | with_reducible exact rc_max2
  | with_reducible exact rc_int1
  | with_reducible exact rc_abs
  | with_reducible exact rc_all
  | with_reducible exact rc_sum)
local macro_rules | `(tactic| walk_at "et") => `(tactic| first
  | ((with_reducible apply et_test (K := ‹PySem.W.Frag›)); walk_at "ev")
  | ((with_reducible apply et_B (K := ‹PySem.W.Frag›)); walk_at "ev")
  | ((with_reducible apply et_not); walk_at "et"))

variable {P : Program} {w : World} {K : PySem.W.Frag} {mg : Str → Option Value} {base : Heap}
structure DfX (P : Program) (w : World) (K : PySem.W.Frag) (mg : Str → Option Value) (base : Heap) (x : Str) (k : Nat) (ps : List Str) (sp : Sp) : Prop where
  ok : ∃ (f : Addr) (fd : FuncData), FnOk P w K mg base (L2.CX P w) k f fd ps sp ∧ mg x = some (.ref f) ∧ PySem.W.keepIn K (.ref f) = true ∧ Binds K fd ps []
theorem pe_dfX {X : Cx} {x : Str} {k : Nat} {ps : List Str} {sp : Sp} {e : Expr} {es : List Expr} {t : TA} {p pos : Pos} {W : WX} {E : XK} (D : DfX X.prog X.w X.K X.mg X.base x k ps sp) (hr : Room k X.A) (hg : Gl X x) (tk : Takes X W) (hW : ∀ cls d σ H, E cls d H → W cls d σ H) (ha : PA X (e :: es) t)
    (hdb : (x == ("__debug__" : Str)) = false := by decide) (he : starEach (e :: es) X.env = (false, eval e X.env) :: starEach es X.env := by rfl) (hpl : (backTo pos (starEach es X.env)).any (·.1) = false := by rfl) : PE X (.Call (.Name x p) (e :: es) [] pos) (tCall sp [] E t) := by
  obtain ⟨f, fd, F, hm, hk, hb⟩ := D.ok
  exact pe_call F hr hg hm hk hb .nil (passes_call tk hW) ha hdb he hpl
/-- what is no sequence of accords of b bodies -/
def BadV (K : PySem.W.Frag) (b : Nat) (v : V) (H : Hp) : Prop :=
  (∃ T, (∀ H', LamX.ExtN H H' → TyX K H' v (.type T)) ∧ kitB T "list" = some false ∧ kitB T "tuple" = some false) ∨
  ∃ (s : Bool) (ds : List PyData), Dp K H v (Seq s ds) ∧ ds.length ≤ 1000 ∧ (∀ x ∈ ds, accOk x = true) ∧ (20 < ds.length ∨ ∃ x ∈ ds, isAcc b x = false)
theorem BadV.mono {b : Nat} {v : V} {H H' : Hp} (e : Ex H H') (h : BadV K b v H) : BadV K b v H' := by
  rcases h with ⟨T, h1, h2⟩ | ⟨s, ds, h1, h2⟩
  · exact .inl ⟨T, fun H2 e2 => h1 H2 ((LamX.ExtN.of e).trans e2), h2⟩
  · exact .inr ⟨s, ds, dp_ex e h1, h2⟩
def spBad (K : PySem.W.Frag) (C : Addr) : Sp := fun vs H Q E => ∃ (b : Nat) (v : V), vs = [.int (b : Nat), v] ∧ BadV K b v H ∧ ∀ d H', Ex H H' → H' d = some (xdAt (.int 1)) → E (.ref C) (some d) H'
variable {C fI cda cc : Addr}
theorem x_check_accords (F : Fd K mg "check_accords" s_check_accords) (B : Nm mg) (D_is_sequence : Df P w K mg base "is_sequence" 1 ["value"] (sp_sequence K)) (D_is_accord : Df P w K mg base "is_accord" 4 ["bodies", "value"] (spP K R_accord)) (T : IqTxt P K mg C fI cda cc) :
    DfX P w K mg base "check_accords" 5 ["bodies", "accords"] (spBad K C) := by
  obtain ⟨f, fd, F, hm⟩ := F.ex
  refine ⟨f, fd, F.okX sc_check_accords (by rintro _ _ _ _ ⟨b, v, rfl, _⟩; rfl) fun cdv A outer s H vs Q E hr h => ?_, hm, F.kp, F.binds (fun _ _ _ _ _ _ us hl => match us, hl with | [_, _], _ => rfl)⟩
  obtain ⟨b, v, rfl, hbad, q⟩ := h
  have hu64 := hr.units
  refine ⟨_, pss_one (ps_if (PW.pt (pw_or (pt_not (pt_val (pe_df D_is_sequence (hr.mono (by decide)) (by rfl) (pa_cons (pv 1) pa_nil)))) (pw_or (pt_cmpR op_gt (pe_callB (call_lenK (K := K) rfl) (by rfl) B.len PySem.boot_len (pa_cons (pv 1) pa_nil)) (pe_globI rfl B.mg_ACCORDS) (nomark _)) (pw_or1 (pt_not (pt_val (pe_callB (cr_all rfl) (by rfl) B.all (by decide +kernel) (pa_cons (pe_lc (own := [("one", 2)]) rfl sc_check_accords.nd (pi_seqK (K := K) rfl (pv 1)) (blkOk_by (own := [("one", 2)]) (N := N_check_accords) (sc := defScope s_check_accords) (by decide +kernel)) (fun _ _ _ _ _ => (pg_name (i := 2) sc_check_accords.nd rfl (.inl rfl))) (fun _ _ _ _ _ => pts_nil) (fun _ _ _ _ _ => (pe_df D_is_accord (hr.mono (by decide)) (by rfl) (pa_cons (pv 0) (pa_cons (pv 2) pa_nil))))) pa_nil)))))))) (pss_one (ps_raiseIq rfl T hr (takes_of rfl rfl rfl rfl) (pa_cons pe_int pa_nil))) pss_nil), ?_⟩
  try dsimp only [cxOf, Cx.nox, Cx.wish]
  refine s_when (b := true) ?_ (fun _ H1 e1 => ⟨_, rfl, fun d hd => q d _ (e1.trans (Ex.new hd)) upd_same⟩) fun z => nomatch z
  rcases hbad with ⟨T', h1, h2, h3⟩ | ⟨s', ds, hv, hl, hok, hno⟩
  · refine et_or (a := true) (b := true) (et_is (a := !false) (et_not fun H1 g Q q => ⟨v, rfl, ⟨v, T', false, false, rfl, fun H2 e2 => h1 H2 ((LamX.ExtN.of g).trans (LamX.ExtN.of e2)), h2, h3, fun H3 e3 => ⟨false, rfl, q H3 e3⟩⟩⟩) rfl) fun z => nomatch z
  · have lenS : ∀ {σ H}, EvD K (tVar 1) σ H (Seq s' ds) → EvD K (tCB (fun xs H Q => ∃ p ys, xs = [V.ref p] ∧ (SqL K H p ys ∨ SqT K H p ys) ∧ Q (V.int ↑ys.length) H) (tCons (tVar 1) tNil)) σ H (.int (ds.length : Nat)) := fun h => by
      cases s' with
      | true => exact evd_cb (evda_cons h evda_nil) rc_len
      | false => exact evd_cb (evda_cons h evda_nil) rc_lenT
    refine et_is (et_or (a := false) (b := true) (et_is (et_not (et_B (evd_seq (by walk_at "ev")))) (by rw [seq_kind]; rfl)) fun _ => et_is (et_or (a := decide ((20 : Int) < (ds.length : Int))) (b := !(ds.all fun x => isAcc b x)) (et_test (evd_op (lenS (by walk_at "ev")) (by walk_at "ev") rd_gt)) fun _ =>
      et_not (et_B (evd_all (b := s') (ds := ds) (fun x => isAcc b x) (by walk_at "ev") (by omega) fun x hx => ?_))) ?_) rfl
    · exact lct_name (fun v => rfl) fun v H1 e dv => ⟨et_yes, fun _ => evd_call (ds := [.int (b : Nat), x]) (by walk_at "ea") ⟨b, x, hok x hx, rfl, rfl⟩⟩
    · rcases hno with h | ⟨x, hx, h⟩
      · rw [decide_eq_true (by omega)]
        rfl
      · have : (ds.all fun x => isAcc b x) = false := by
          rw [Bool.eq_false_iff]
          intro z
          have := List.all_eq_true.mp z x hx
          rw [h] at this
          cases this
        rw [this]
        simp
theorem x_handed_on (F : Fd K mg "handed_on" s_handed_on) (B : Nm mg) (X_check_accords : DfX P w K mg base "check_accords" 5 ["bodies", "accords"] (spBad K C)) (D_closing : Df P w K mg base "closing" 4 ["counts"] (spP K R_closing)) (D_told_counts : Df P w K mg base "told_counts" 1 ["accords", "one", "other"] (spP K R_told))
    (D_both : Df P w K mg base "both" 6 ["one", "other"] (spP K R_both)) (D_together : Df P w K mg base "together" 7 ["one", "other"] (spP K R_together)) : DfX P w K mg base "handed_on" 8 ["bodies", "accords"] (spBad K C) := by
  obtain ⟨f, fd, F, hm⟩ := F.ex
  refine ⟨f, fd, F.okX sc_handed_on (by rintro _ _ _ _ ⟨b, v, rfl, _⟩; rfl) fun cdv A outer s H vs Q E hr h => ?_, hm, F.kp, F.binds (fun _ _ _ _ _ _ us hl => match us, hl with | [_, _], _ => rfl)⟩
  obtain ⟨b, v, rfl, hbad, q⟩ := h
  have hu64 := hr.units
  have hu65 := room65 hr
  have hu1 := room1 hr
  refine ⟨_, pss_cons (ps_expr (pe_dfX X_check_accords (hr.mono (by decide)) (by rfl) (takes_of rfl rfl rfl rfl) (fun _ _ _ _ z => z) (pa_cons (pv 0) (pa_cons (pv 1) pa_nil)))) (PSs.nox (pss_cons (ps_setLc2 (i := 4) (own := [("i", 2), ("j", 3)]) (vs1 := [3]) rfl sc_handed_on.nd rfl rfl (sw_true rfl rfl rfl (by decide +kernel)) (pi_range1 (by rfl) B.range (pa_cons (pv 0) pa_nil)) (blkOk_by (own := [("i", 2), ("j", 3)]) (N := N_handed_on) (sc := defScope s_handed_on) (by decide +kernel)) (by decide) (fun _ _ _ _ _ => (pg_name (i := 2) sc_handed_on.nd rfl (.inl rfl))) (fun _ _ _ _ _ => pts_nil) (fun _ _ _ _ _ => (pi_range2 (by rfl) B.range (pa_cons (pe_op (op_plusK (K := K) rfl) (pv 2) pe_int) (pa_cons (pv 0) pa_nil)))) (fun _ _ _ _ _ => (pg_name (i := 3) sc_handed_on.nd rfl (.inl rfl))) (fun _ _ _ _ _ => pts_nil) (fun _ _ _ _ _ => (pe_tup (pa_cons (pv 2) (pa_cons (pv 3) pa_nil)))))
      (pss_cons (ps_asg (pe_tup (pa_cons (pe_dcT (own := [("pair", 5)]) rfl sc_handed_on.nd (pi_seqK (K := K) rfl (pv 4)) (blkOk_by (own := [("pair", 5)]) (N := N_handed_on) (sc := defScope s_handed_on) (by decide +kernel)) hu1 (fun _ _ _ _ _ => (pg_name (i := 5) sc_handed_on.nd rfl (.inl rfl))) (fun _ _ _ _ _ => (pv 5)) (fun _ _ _ _ _ => (pe_df D_closing (hr.mono (by decide)) (by rfl) (pa_cons (pe_df D_told_counts (hr.mono (by decide)) (by rfl) (pa_cons (pv 1) (pa_cons (pe_ix (ix_K (K := K) rfl) (pv 5) pe_int (fun _ _ => rfl)) (pa_cons (pe_ix (ix_K (K := K) rfl) (pv 5) pe_int (fun _ _ => rfl)) pa_nil)))) pa_nil)))) (pa_cons pe_dnewT pa_nil))) (pg_tupK (K := K) (n := 2) rfl rfl (pgs_cons (pg_name (i := 6) sc_handed_on.nd rfl (.inr rfl)) (pgs_cons (pg_name (i := 7) sc_handed_on.nd rfl (.inl rfl)) pgs_nil))))
      (pss_cons (ps_while PassesOwn.never (pt_cmpR (op_neT (K := K) hu65 rfl) (pv 6) (pv 7) (nomark _)) (pss_cons (ps_setDcT (i := 7) (own := [("pair", 5)]) rfl sc_handed_on.nd rfl rfl (swd_true rfl rfl rfl (by decide +kernel)) (pi_seqK (K := K) rfl (pv 4)) (blkOk_by (own := [("pair", 5)]) (N := N_handed_on) (sc := defScope s_handed_on) (by decide +kernel)) hu1 (fun _ _ _ _ _ => (pg_name (i := 5) sc_handed_on.nd rfl (.inl rfl))) (fun _ _ _ _ _ => (pv 5)) (fun _ _ _ _ _ => (pe_dget hu1 (pv 6) (pv 5) (fun _ _ => rfl))))
      (pss_one (ps_for PassesOwn.never rfl (pi_seqK (K := K) rfl (pv 4)) (pg_tupK (K := K) (n := 2) rfl rfl (pgs_cons (pg_name (i := 2) sc_handed_on.nd rfl (.inl rfl)) (pgs_cons (pg_name (i := 3) sc_handed_on.nd rfl (.inl rfl)) pgs_nil))) (pss_one (ps_for PassesOwn.never rfl (pi_range1 (by rfl) B.range (pa_cons (pv 0) pa_nil)) (pg_name (i := 8) sc_handed_on.nd rfl (.inl rfl)) (pss_one (ps_if (pt_cmpR (op_notInK (K := K) rfl) (pv 8) (pe_tup (pa_cons (pv 2) (pa_cons (pv 3) pa_nil))) (by rfl)) (pss_cons (ps_set (i := 9) sc_handed_on.nd rfl (.inl rfl) (pe_df D_both (hr.mono (by decide)) (by rfl) (pa_cons (pe_dget hu1 (pv 6) (pe_tup (pa_cons (pe_callB (call_min2 rfl) (by rfl) B.min (by decide +kernel) (pa_cons (pv 2) (pa_cons (pv 8) pa_nil))) (pa_cons (pe_callB (call_max2 rfl) (by rfl) B.max (by decide +kernel) (pa_cons (pv 2) (pa_cons (pv 8) pa_nil))) pa_nil))) (fun _ _ => rfl)) (pa_cons (pe_dget hu1 (pv 6) (pe_tup (pa_cons (pe_callB (call_min2 rfl) (by rfl) B.min (by decide +kernel) (pa_cons (pv 3) (pa_cons (pv 8) pa_nil))) (pa_cons (pe_callB (call_max2 rfl) (by rfl) B.max (by decide +kernel) (pa_cons (pv 3) (pa_cons (pv 8) pa_nil))) pa_nil))) (fun _ _ => rfl)) pa_nil))))
      (pss_one (ps_dput hu1 (pv 6) (pe_tup (pa_cons (pv 2) (pa_cons (pv 3) pa_nil))) (pe_df D_together (hr.mono (by decide)) (by rfl) (pa_cons (pe_dget hu1 (pv 6) (pe_tup (pa_cons (pv 2) (pa_cons (pv 3) pa_nil))) (fun _ _ => rfl)) (pa_cons (pv 9) pa_nil))) rfl))) pss_nil))))))))
      (pss_one (ps_ret (pe_callTy call_tuple_of (by rfl) B.tuple (by decide +kernel) (pa_cons (pe_lc (own := [("i", 2), ("j", 3)]) rfl sc_handed_on.nd (pi_seqK (K := K) rfl (pv 4)) (blkOk_by (own := [("i", 2), ("j", 3)]) (N := N_handed_on) (sc := defScope s_handed_on) (by decide +kernel)) (fun _ _ _ _ _ => (pg_tupK (K := K) (n := 2) rfl rfl (pgs_cons (pg_name (i := 2) sc_handed_on.nd rfl (.inl rfl)) (pgs_cons (pg_name (i := 3) sc_handed_on.nd rfl (.inl rfl)) pgs_nil)))) (fun _ _ _ _ _ => pts_nil) (fun _ _ _ _ _ => (pe_tup (pa_cons (pv 2) (pa_cons (pv 3) (pa_cons (pe_dget hu1 (pv 6) (pe_tup (pa_cons (pv 2) (pa_cons (pv 3) pa_nil))) (fun _ _ => rfl)) pa_nil)))))) pa_nil)))))))), ?_⟩
  try dsimp only [cxOf, Cx.nox, Cx.wish]
  exact ⟨_, rfl, _, rfl, b, v, rfl, hbad, q⟩
end Bw
end
section
set_option Elab.async false
set_option linter.all false
set_option maxRecDepth 100000
set_option maxHeartbeats 8000000
/-! what are no accords, drawn. -/
namespace Bw
open PySem PySem.Spec PyProof.Rows L2 Bfb
local macro_rules | `(tactic| walk_at "ex") => `(tactic| first
  | assumption
  | exact Ex.refl _
  | (refine Ex.trans ?_ (by assumption); walk_at "ex"))
local macro_rules | `(tactic| walk_at "om") => `(tactic| first | omega | assumption | (left; constructor <;> omega) | (right; constructor <;> omega) | decide)
local macro_rules | `(tactic| walk_at "ln") => `(tactic| first | decide | (simp only [List.length_cons, List.length_nil, List.length_append, List.length_map]; omega))
local macro_rules | `(tactic| walk_at "rd") => `(tactic| first
  | with_reducible exact rd_plus
  | with_reducible exact rd_sub
  | with_reducible exact rd_lt
  | with_reducible exact rd_le
  | with_reducible exact rd_gt
  | with_reducible exact rd_ge
  | with_reducible exact rd_eqI
  | with_reducible exact rd_neI
  | ((with_reducible apply rd_eqD); rfl; rfl)
  | ((with_reducible apply rd_neD); rfl; rfl)
  | ((with_reducible apply rd_mul); walk_at "om")
  | ((with_reducible apply rd_div); walk_at "om"; walk_at "om")
  | ((with_reducible apply rd_mod); walk_at "om")
  | ((with_reducible apply rd_divW); walk_at "om"; walk_at "om")
  | ((with_reducible apply rd_ixT); rfl)
  | ((with_reducible apply rd_ixL); rfl)
  | with_reducible exact rd_isNi
  | with_reducible exact rd_isNn
  | with_reducible exact rd_isNt
  | with_reducible exact rd_notNn)
local macro_rules | `(tactic| walk_at "ev") => `(tactic| first
  | with_reducible exact evd_int
  | ((with_reducible apply evd_varI); rfl)
  | ((with_reducible apply evd_varB); rfl)
  | ((with_reducible apply evd_var); rfl; assumption; walk_at "ex")
  | with_reducible exact evd_bl
  | with_reducible exact evd_non
  | with_reducible exact evd_str
  | ((with_reducible apply evd_op); walk_at "ev"; walk_at "ev"; walk_at "rd")
  | ((with_reducible apply evd_tup); walk_at "ea"; walk_at "ln")
  | ((with_reducible apply evd_lst); walk_at "ea"; walk_at "ln")
  | ((with_reducible apply evd_isInt); walk_at "ev")
  | ((with_reducible apply evd_isBool); walk_at "ev")
  | ((with_reducible apply evd_isTuple); walk_at "ev")
  | ((with_reducible apply evd_cb); walk_at "ea"; walk_at "rc")
  | with_reducible exact evd_neg1
  | ((with_reducible apply evd_notV); walk_at "ev")
  | ((with_reducible apply evd_call); walk_at "ea"; assumption))
local macro_rules | `(tactic| walk_at "ea") => `(tactic| first
  | with_reducible exact evda_nil
  | ((with_reducible apply evda_cons); walk_at "ev"; walk_at "ea")
  | ((with_reducible apply evda_starT); walk_at "ev"; walk_at "ea")
  | ((with_reducible apply evda_starL); walk_at "ev"; walk_at "ea"))
local macro_rules | `(tactic| walk_at "rc") => `(tactic| first
  | with_reducible exact rc_len
  | with_reducible exact rc_lenT
  | with_reducible exact rc_tupL
  | with_reducible exact rc_tupT
  | with_reducible exact rc_listL
  | with_reducible exact rc_listT
  | with_reducible exact rc_min2
  | with_reducible exact rc_max2
  | with_reducible exact rc_int1
  | with_reducible exact rc_abs
  | with_reducible exact rc_all
  | with_reducible exact rc_sum)
local macro_rules | `(tactic| walk_at "et") => `(tactic| first
  | ((with_reducible apply et_test (K := ‹PySem.W.Frag›)); walk_at "ev")
  | ((with_reducible apply et_B (K := ‹PySem.W.Frag›)); walk_at "ev")
  | ((with_reducible apply et_not); walk_at "et"))

variable {P : Program} {w : World} {K : PySem.W.Frag} {mg : Str → Option Value} {base : Heap}
def spBadA (K : PySem.W.Frag) : Sp := fun vs H Q _ => ∃ (a c q : Addr) (b : Nat) (as : List (Nat × Nat × Nat)), vs = [.ref a, .int (b : Nat), .ref q] ∧ 0 < b ∧ b ≤ 3 ∧ as.length ≤ 7 ∧ (∀ x ∈ as, GoodAcc b x) ∧ Dp K H (.ref q) (.list (as.map accD)) ∧ q ∉ [a, c] ∧ Deal H a c ∧
  ∀ v H', BadV K b v H' → Bts [a, c] H H' → Deal H' a c → Q v H'
theorem sqt_exn {H H' : Hp} {a : Addr} {xs : List V} (e : LamX.ExtN H H') (h : SqT K H a xs) : SqT K H' a xs := by
  rcases h with (h | ⟨o, h⟩) | h
  · exact .inl (.inl (e _ _ h fun _ z => nomatch z))
  · exact .inl (.inr ⟨o, e _ _ h fun _ z => nomatch z⟩)
  · exact .inr h
theorem sql_exn {H H' : Hp} {a : Addr} {xs : List V} (e : LamX.ExtN H H') (h : SqL K H a xs) : SqL K H' a xs := by
  rcases h with (h | ⟨o, h⟩) | h
  · exact .inl (.inl (e _ _ h fun _ z => nomatch z))
  · exact .inl (.inr ⟨o, e _ _ h fun _ z => nomatch z⟩)
  · exact .inr h
mutual
theorem dp_exn {K : PySem.W.Frag} {H H' : Hp} (e : LamX.ExtN H H') : ∀ {d : PyData} {v : V}, Dp K H v d → Dp K H' v d
  | .none, _, .non => .non
  | .bool _, _, .bl b => .bl b
  | .int _, _, .int i => .int i
  | .str _, _, .str x => .str x
  | .list _, _, .lst h hs => .lst (sql_exn e h) (dpa_exn e hs)
  | .tuple _, _, .tup h hs => .tup (sqt_exn e h) (dpa_exn e hs)
theorem dpa_exn {K : PySem.W.Frag} {H H' : Hp} (e : LamX.ExtN H H') : ∀ {ds : List PyData} {vs : List V}, DpAll K H vs ds → DpAll K H' vs ds
  | [], _, .nil => .nil
  | _ :: _, _, .cons h hs => .cons (dp_exn e h) (dpa_exn e hs)
end
theorem BadV.exn {b : Nat} {v : V} {H H' : Hp} (e : LamX.ExtN H H') (h : BadV K b v H) : BadV K b v H' := by
  rcases h with ⟨T, h1, h2⟩ | ⟨s, ds, h1, h2⟩
  · exact .inl ⟨T, fun H2 e2 => h1 H2 (e.trans e2), h2⟩
  · exact .inr ⟨s, ds, dp_exn e h1, h2⟩
/-- no accord of b bodies, beside the source -/
def BadIt (K : PySem.W.Frag) (a c : Addr) (b : Nat) (H : Hp) (v : V) : Prop := (∃ d, noL d = true ∧ accOk d = true ∧ isAcc b d = false ∧ Dp K H v d) ∨ ∃ p, v = .ref p ∧ p ∉ [a, c] ∧ Dp K H (.ref p) (.list [.int 0, .int 0, .int 2])
section
variable {σ : L2.St} {H H1 H' : Hp} {a c p : Addr} {b n : Nat} {v : V} {d : PyData} {te : TE} {ta : TA}
theorem BadIt.mono (e : Ex H H') (h : BadIt K a c b H v) : BadIt K a c b H' v := by
  rcases h with ⟨d, h1, h2, h3, h4⟩ | ⟨p, h1, h2, h3⟩
  · exact .inl ⟨d, h1, h2, h3, dp_ex e h4⟩
  · exact .inr ⟨p, h1, h2, dp_ex e h3⟩
theorem BadIt.bts (bt : Bts [a, c] H H') (hl : Lsts [a, c] H) (h : BadIt K a c b H v) : BadIt K a c b H' v := by
  rcases h with ⟨d, h1, h2, h3, h4⟩ | ⟨p, h1, h2, h3⟩
  · exact .inl ⟨d, h1, h2, h3, dp_bts bt hl h1 h4⟩
  · exact .inr ⟨p, h1, h2, dpl_bts bt hl rfl h3 h2⟩
theorem BadIt.dp (h : BadIt K a c b H v) : ∃ d, accOk d = true ∧ isAcc b d = false ∧ Dp K H v d := by
  rcases h with ⟨d, h1, h2, h3, h4⟩ | ⟨p, h1, h2, h3⟩
  · exact ⟨d, h2, h3, h4⟩
  · rw [h1]; exact ⟨_, rfl, rfl, h3⟩
def EvI (K : PySem.W.Frag) (a c : Addr) (b : Nat) (te : TE) (σ : L2.St) (H : Hp) : Prop := ∀ H1, Ex H H1 → Deal H1 a c → ∀ Q : VK, (∀ v H2, Ex H1 H2 → BadIt K a c b H2 v → Q v H2) → te σ H1 Q
def EvIA (K : PySem.W.Frag) (a c : Addr) (b : Nat) (ta : TA) (σ : L2.St) (H : Hp) (n : Nat) : Prop := ∀ H1, Ex H H1 → Deal H1 a c → ∀ Q : List V → Hp → Prop, (∀ vs H2, Ex H1 H2 → vs.length = n → (∀ v ∈ vs, BadIt K a c b H2 v) → Q vs H2) → ta σ H1 Q
theorem evi_of (h1 : noL d = true) (h2 : accOk d = true) (h3 : isAcc b d = false) (h : EvD K te σ H d) : EvI K a c b te σ H := fun H1 e dl Q q => h H1 e Q fun v H2 e2 dv => q v H2 e2 (.inl ⟨d, h1, h2, h3, dv⟩)
theorem evi_l : EvI K a c b (tLst (tCons (tC (V.int 0)) (tCons (tC (V.int 0)) (tCons (tC (V.int 2)) tNil)))) σ H := fun H1 e dl Q q => ⟨by show 3 ≤ sizeLine; decide, fun p np => q _ _ (Ex.new np) (.inr ⟨p, rfl, dl.nin np, .lst (SqL.of upd_same) (.cons (.int _) (.cons (.int _) (.cons (.int _) .nil)))⟩)⟩
theorem evia_nil : EvIA K a c b tNil σ H 0 := fun H1 e dl Q q => q [] H1 (Ex.refl _) rfl fun _ h => nomatch h
theorem evia_cons (h : EvI K a c b te σ H) (hr : EvIA K a c b ta σ H n) : EvIA K a c b (tCons te ta) σ H (n + 1) := fun H1 e dl Q q => h H1 e dl _ fun v H2 e2 h2 => hr H2 (e.trans e2) (dl.mono e2) _ fun vs H3 e3 hl h3 => q _ H3 (e2.trans e3) (by rw [List.length_cons, hl]) fun x hx => (List.mem_cons.mp hx).elim (fun z => by rw [z]; exact h2.mono e3) (h3 x)
/-- a list of them -/
def BadL (K : PySem.W.Frag) (a c : Addr) (b : Nat) (H : Hp) (p : Addr) (n : Nat) : Prop := ∃ vs, H p = some (.lst vs) ∧ p ∉ [a, c] ∧ vs.length = n ∧ ∀ v ∈ vs, BadIt K a c b H v
theorem BadL.mono {n : Nat} (e : Ex H H') (h : BadL K a c b H p n) : BadL K a c b H' p n := by
  obtain ⟨vs, h1, h2, h3, h4⟩ := h
  exact ⟨vs, e _ _ h1, h2, h3, fun v hv => (h4 v hv).mono e⟩
theorem BadL.bts {n : Nat} (bt : Bts [a, c] H H') (hl : Lsts [a, c] H) (h : BadL K a c b H p n) : BadL K a c b H' p n := by
  obtain ⟨vs, h1, h2, h3, h4⟩ := h
  exact ⟨vs, bt _ _ h2 h1, h2, h3, fun v hv => (h4 v hv).bts bt hl⟩
theorem t_badL {Q : VK} (dl : Deal H a c) (h : EvIA K a c b ta σ H n) (hn : n ≤ 100) (k : ∀ p H1, Ex H H1 → Deal H1 a c → BadL K a c b H1 p n → Q (.ref p) H1) : tLst ta σ H Q :=
  h H (Ex.refl _) dl _ fun vs H2 e2 hl hv => ⟨by rw [hl]; exact Evl.sz_of (by omega), fun p np => k p _ (e2.trans (Ex.new np)) ((dl.mono e2).mono (Ex.new np)) ⟨vs, upd_same, (dl.mono e2).nin np, hl, fun v hv' => (hv v hv').mono (Ex.new np)⟩⟩
theorem badv_flat {H : Hp} (h : Dp K H v d) (h1 : kL d = false) (h2 : kT d = false) : BadV K b v H := .inl ⟨tyD d, fun H' e => tyx (dp_exn e h), by rw [kit_list, h1], by rw [kit_tuple, h2]⟩
end
theorem d_law_bad_accords (F : Fd K mg "_law_bad_accords" s_law_bad_accords) (B : Nm mg) (D_law_any : Df P w K mg base "_law_any" 1 ["_law_deal", "_law_bound"] (spAny)) (D_law_of : Df P w K mg base "_law_of" 2 ["_law_deal", "_law_some"] (spOf K)) : Df P w K mg base "_law_bad_accords" 3 ["_law_deal", "_law_bodies", "_law_accords_here"] (spBadA K) := by
  refine d_any F sc_law_bad_accords (fun _ _ _ _ _ _ us hl => match us, hl with | [_, _, _], _ => rfl) (by rintro _ _ _ _ ⟨a, c, q, b, as, rfl, b0, b3, hl, hg, hq, hnq, hd, k⟩; rfl) fun f cdv A outer s H vs Q E hr hR => ?_
  have hu64 := hr.units
  have hu65 := room65 hr
  have hu1 := room1 hr
  obtain ⟨a, c, q, b, as, rfl, b0, b3, hl, hg, hq, hnq, hd, k⟩ := hR
  refine ⟨_, (pss_cons (ps_par (i := 3) (j := 4) (by rfl) sc_law_bad_accords.nd rfl rfl (by decide) rfl rfl (pa_cons (pe_df D_law_any (hr.mono (by decide)) (by rfl) (pa_cons (pv 0) (pa_cons (pe_op (op_plusK (K := K) rfl) (pe_callB (call_lenK (K := K) rfl) (by rfl) B.len PySem.boot_len (pa_cons (pv 2) pa_nil)) pe_int) pa_nil))) (pa_cons (pe_lst (pa_cons (pe_tup (pa_cons (pv 1) (pa_cons pe_int (pa_cons pe_int pa_nil)))) (pa_cons (pe_tup (pa_cons pe_int (pa_cons (pe_un un_neg pe_int) (pa_cons pe_int pa_nil)))) (pa_cons (pe_tup (pa_cons pe_int (pa_cons pe_int (pa_cons pe_int pa_nil)))) (pa_cons (pe_tup (pa_cons pe_int (pa_cons pe_int (pa_cons (pe_un un_neg pe_int) pa_nil)))) (pa_cons (pe_tup (pa_cons pe_int (pa_cons pe_int pa_nil))) (pa_cons (pe_tup (pa_cons pe_int (pa_cons pe_int (pa_cons pe_int (pa_cons pe_int pa_nil))))) (pa_cons (pe_lst (pa_cons pe_int (pa_cons pe_int (pa_cons pe_int pa_nil)))) pa_nil)))))))) pa_nil)) (by rfl))
      (pss_cons (ps_set (i := 4) sc_law_bad_accords.nd rfl (.inl rfl) (pe_op (op_plusK (K := K) rfl) (pv 4) (pe_lst (pa_cons (pe_tup (pa_cons pe_bl (pa_cons pe_int (pa_cons pe_int pa_nil)))) (pa_cons (pe_tup (pa_cons pe_int (pa_cons pe_bl (pa_cons pe_int pa_nil)))) (pa_cons (pe_tup (pa_cons pe_int (pa_cons pe_int (pa_cons pe_bl pa_nil)))) (pa_cons (pe_tup (pa_cons pe_int (pa_cons pe_non (pa_cons pe_int pa_nil)))) (pa_cons (pe_tup (pa_cons pe_int (pa_cons pe_int (pa_cons pe_str pa_nil)))) (pa_cons pe_non (pa_cons pe_int (pa_cons (pe_tup (pa_cons (pe_tup (pa_cons pe_int pa_nil)) (pa_cons pe_int (pa_cons pe_int pa_nil)))) pa_nil)))))))))))
      (pss_cons (ps_set (i := 5) sc_law_bad_accords.nd rfl (.inl rfl) (pe_df D_law_any (hr.mono (by decide)) (by rfl) (pa_cons (pv 0) (pa_cons pe_int pa_nil))))
      (pss_cons (ps_if (pt_cmpR (op_eqK (K := K) hu64 rfl) (pv 5) pe_int (nomark _)) (pss_one (ps_ret (pe_df D_law_of (hr.mono (by decide)) (by rfl) (pa_cons (pv 0) (pa_cons (pe_lst (pa_cons pe_non (pa_cons pe_int (pa_cons pe_str (pa_cons pe_dnewT (pa_cons (pe_tup (pa_cons (pv 2) pa_nil)) pa_nil)))))) pa_nil))))) pss_nil)
      (pss_cons (ps_if (pt_cmpR (op_eqK (K := K) hu64 rfl) (pv 5) pe_int (nomark _)) (pss_one (ps_ret (pe_op (op_plusK (K := K) rfl) (pe_callTy call_list_of (by rfl) B.list (by decide +kernel) (pa_cons (pv 2) pa_nil)) (pe_op op_rep (pe_lst (pa_cons (pe_tup (pa_cons pe_int (pa_cons pe_int (pa_cons pe_int pa_nil)))) pa_nil)) (pe_op op_sub pe_int (pe_callB (call_lenK (K := K) rfl) (by rfl) B.len PySem.boot_len (pa_cons (pv 2) pa_nil))))))) pss_nil)
      (pss_one (ps_ret (pe_op (op_plusK (K := K) rfl) (pe_op (op_plusK (K := K) rfl) (pe_callTy call_list_of (by rfl) B.list (by decide +kernel) (pa_cons (pe_slice (sl_K (K := K) rfl) (pv 2) po_none (po_some (pv 3))) pa_nil)) (pe_lst (pa_cons (pe_df D_law_of (hr.mono (by decide)) (by rfl) (pa_cons (pv 0) (pa_cons (pv 4) pa_nil))) pa_nil))) (pe_callTy call_list_of (by rfl) B.list (by decide +kernel) (pa_cons (pe_slice (sl_K (K := K) rfl) (pv 2) (po_some (pv 3)) po_none) pa_nil)))))))))), ?_⟩
  try dsimp only [cxOf, Cx.nox, Cx.wish]
  have accOkA : ∀ as : List (Nat × Nat × Nat), ∀ x ∈ as.map accD, accOk x = true := fun as x hx => by
    obtain ⟨y, _, rfl⟩ := List.mem_map.mp hx
    rfl
  have i1 : isAcc b (.tuple [.int (b : Nat), .int 0, .int 2]) = false := by simp [isAcc, isIx]
  have i2 : isAcc b (.tuple [.int 0, .int (-1), .int 2]) = false := by simp [isAcc, isIx]
  refine evn_any (K := K) (a := a) (c := c) (n := as.length + 1) rfl (by omega) (by omega) (fun H1 b1 => evd_is (evd_op (evd_cb (evda_cons (evd_var (i := 2) rfl (dpl_bts b1 hd.lsts (noAcc as) hq hnq) (Ex.refl _)) evda_nil) rc_len) evd_int rd_plus) (by rw [List.length_map]; rfl)) H Bts.refl hd _ fun v d H1 b1 d1 r1 dv => ?_
  obtain ⟨j, hj, rfl⟩ := r1
  cases dp_int dv
  refine t_cons ?_
  refine t_badL (K := K) (b := b) d1 (n := 7) ?_ (by decide) fun p1 H2 e2 d2 l2 => t_nil ⟨_, _, rfl, ?_⟩
  · exact evia_cons (evi_of (d := .tuple [.int (b : Nat), .int 0, .int 2]) rfl rfl i1 (by walk_at "ev")) (evia_cons (evi_of (d := .tuple [.int 0, .int (-1), .int 2]) rfl rfl i2 (by walk_at "ev")) (evia_cons (evi_of (d := .tuple [.int 0, .int 0, .int 61]) rfl rfl rfl (by walk_at "ev")) (evia_cons (evi_of (d := .tuple [.int 0, .int 0, .int (-1)]) rfl rfl rfl (by walk_at "ev"))
      (evia_cons (evi_of (d := .tuple [.int 0, .int 0]) rfl rfl rfl (by walk_at "ev")) (evia_cons (evi_of (d := .tuple [.int 0, .int 0, .int 2, .int 2]) rfl rfl rfl (by walk_at "ev")) (evia_cons evi_l evia_nil))))))
  obtain ⟨vs1, g1, g2, g3, g4⟩ := l2
  -- more of them
  dsimp only
  refine q_asgT (t_op ?_)
  refine ⟨_, rfl, ?_⟩
  refine t_badL (K := K) (b := b) d2 (n := 8) ?_ (by decide) fun p2 H3 e3 d3 l3 => ?_
  · exact evia_cons (evi_of (d := .tuple [.bool true, .int 0, .int 2]) rfl rfl rfl (by walk_at "ev")) (evia_cons (evi_of (d := .tuple [.int 0, .bool false, .int 2]) rfl rfl (by simp [isAcc, isIx]) (by walk_at "ev")) (evia_cons (evi_of (d := .tuple [.int 0, .int 0, .bool true]) rfl rfl rfl (by walk_at "ev")) (evia_cons (evi_of (d := .tuple [.int 0, .none, .int 2]) rfl rfl (by simp [isAcc, isIx]) (by walk_at "ev"))
      (evia_cons (evi_of (d := .tuple [.int 0, .int 0, .str "2"]) rfl rfl rfl (by walk_at "ev")) (evia_cons (evi_of (d := .none) rfl rfl rfl (by walk_at "ev")) (evia_cons (evi_of (d := .int 2) rfl rfl rfl (by walk_at "ev")) (evia_cons (evi_of (d := .tuple [.tuple [.int 0], .int 0, .int 2]) rfl rfl (by simp [isAcc, isIx]) (by walk_at "ev")) evia_nil)))))))
  obtain ⟨vs2, f1, f2, f3, f4⟩ := l3
  refine .inr (.inl ⟨p1, p2, vs1, vs2, rfl, rfl, SqL.of (e3 _ _ g1), SqL.of f1, by rw [g3, f3]; decide, fun p3 n3 => ?_⟩)
  have bl : BadL K a c b (upd H3 p3 (.lst (vs1 ++ vs2))) p3 15 := ⟨_, upd_same, d3.nin n3, by rw [List.length_append, g3, f3], fun v hv => (List.mem_append.mp hv).elim (fun z => (g4 v z).mono (e3.trans (Ex.new n3))) fun z => (f4 v z).mono (Ex.new n3)⟩
  have d4 := d3.mono (Ex.new (o := .lst (vs1 ++ vs2)) n3)
  have b4 : Bts [a, c] H (upd H3 p3 (.lst (vs1 ++ vs2))) := b1.trans (Bts.of ((e2.trans e3).trans (Ex.new n3)))
  generalize upd H3 p3 (.lst (vs1 ++ vs2)) = H4 at bl d4 b4
  clear g1 g2 g3 g4 f1 f2 f3 f4 e3 n3
  refine q_setN K (σ := [some (.ref a), some (.int (b : Nat)), some (.ref q), some (.int (j : Nat)), some (.ref p3), none]) d4 (evn_any (n := 5) rfl (by decide) (by decide) fun H1 _ => evd_int) fun v d H5 b5 d5 r5 dv => ?_
  obtain ⟨f, hf, rfl⟩ := r5
  cases dp_int dv
  have bl5 := bl.bts b5 d4.lsts
  have hq5 := dpl_bts (b4.trans b5) hd.lsts (noAcc as) hq hnq
  have bb := b4.trans b5
  refine q_when (b := decide ((f : Int) = 0)) (by walk_at "et") (fun hf0 H6 e6 => ?_) (fun hf0 H6 e6 => ?_)
  · have d6 := d5.mono e6
    refine s_retT (t_call1 (t_cons (t_v rfl (t_cons (t_lst (t_cons (t_c (t_cons (t_c (t_cons (t_c (t_cons (t_dn fun dd nd => t_cons (t_tup (t_cons (t_v rfl (t_nil ⟨by show 1 ≤ sizeLine; decide, fun t nt => t_nil ⟨by show 5 ≤ sizeLine; decide, fun p np => t_nil ?_⟩⟩)))))))))))))))))
    have dA := d6.mono (Ex.new (o := .dT []) nd)
    have dB := dA.mono (Ex.new (o := .tup [.ref q]) nt)
    have dC := dB.mono (Ex.new (o := .lst [.non, .int 0, .str "", .ref dd, .ref t]) np)
    have eG := (e6.trans (Ex.new (o := .dT []) nd)).trans ((Ex.new (o := .tup [.ref q]) nt).trans (Ex.new (o := .lst [.non, .int 0, .str "", .ref dd, .ref t]) np))
    refine ⟨a, c, p, [.non, .int 0, .str "", .ref dd, .ref t], rfl, SqL.of upd_same, dB.nin np, by show 0 < 5; decide, by show 5 < 1000000; decide, dC, fun i v H' hi b7 d7 => k v H' ?_ ((bb.ex eG).trans b7) d7⟩
    have hdd := b7 _ _ (d6.nin nd) ((Ex.new (o := .lst [.non, .int 0, .str "", .ref dd, .ref t]) np) _ _ ((Ex.new (o := .tup [.ref q]) nt) _ _ (upd_same (H := H6) (a := dd) (o := .dT []))))
    have ht := b7 _ _ (dA.nin nt) ((Ex.new (o := .lst [.non, .int 0, .str "", .ref dd, .ref t]) np) _ _ (upd_same (H := upd H6 dd (.dT [])) (a := t) (o := .tup [.ref q])))
    have hq7 := dpl_bts b7 dC.lsts (noAcc as) (dp_ex eG hq5) hnq
    match i, hi with
    | 0, hi => cases hi; exact badv_flat .non rfl rfl
    | 1, hi => cases hi; exact badv_flat (.int 0) rfl rfl
    | 2, hi => cases hi; exact badv_flat (.str "") rfl rfl
    | 3, hi => cases hi; exact .inl ⟨"dict", fun H2 e2 => .base (.dT (e2 _ _ hdd fun _ z => nomatch z)), by decide +kernel, by decide +kernel⟩
    | 4, hi => cases hi; exact .inr ⟨false, [.list (as.map accD)], .tup (SqT.of ht) (.cons hq7 .nil), by show 1 ≤ 1000; decide, fun x hx => by rw [List.mem_singleton.mp hx]; rfl, .inr ⟨_, List.mem_singleton_self _, rfl⟩⟩
    | n + 5, hi => simp at hi
  · have hq6 := dp_ex e6 hq5
    have d6 := d5.mono e6
    have bl6 := bl5.mono e6
    refine q_when (b := decide ((f : Int) = 1)) (by walk_at "et") (fun hf1 H7 e7 => ?_) (fun hf1 H7 e7 => ?_)
    · have hq7 := dp_ex e7 hq6
      refine s_retT (t_op (t_listOf (K := K) (ds := as.map accD) (evd_var (i := 2) rfl hq7 (Ex.refl _)) fun l ys H8 e8 nl dys => t_op (t_lst (t_cons ?_))))
      have hq8 := dp_ex (e8.trans (Ex.new (o := .lst ys) nl)) hq7
      have hT : EvD K (tTup (tCons (tC (V.int 0)) (tCons (tC (V.int 0)) (tCons (tC (V.int 1)) tNil)))) [some (.ref a), some (.int (b : Nat)), some (.ref q), some (.int (j : Nat)), some (.ref p3), some (.int (f : Nat))] (upd H8 l (.lst ys)) (accD (0, 0, 1)) := show EvD K _ _ _ (.tuple [.int 0, .int 0, .int 1]) from by walk_at "ev"
      refine hT _ (Ex.refl _) _ fun x H9 e9 dx => t_nil ⟨by show 1 ≤ sizeLine; decide, fun m nm => t_op (t_c ?_)⟩
      have hq9 := dp_ex (e9.trans (Ex.new (o := .lst [x]) nm)) hq8
      have hlen : (as.map accD).length = as.length := List.length_map _
      refine evd_cb (K := K) (evda_cons (evd_var (i := 2) rfl hq9 (Ex.refl _)) evda_nil) rc_len _ (Ex.refl _) _ fun y G e10 dy => ⟨21, ((as.map accD).length : Nat), rfl, dp_int dy, ?_⟩
      refine ⟨m, _, [x], rfl, rfl, e10 _ _ upd_same, by omega, by omega, by show 1 * _ ≤ _; rw [Nat.one_mul]; exact Evl.sz_of (by omega), fun p np => ?_⟩
      have hl : upd G p (.lst (List.replicate ((21 : Int) - ((as.map accD).length : Nat)).toNat [x]).flatten) l = some (.lst ys) := Ex.new np _ _ (e10 _ _ ((Ex.new nm) _ _ (e9 _ _ upd_same)))
      have dys' : DpAll K (upd G p (.lst (List.replicate ((21 : Int) - ((as.map accD).length : Nat)).toNat [x]).flatten)) ys (as.map accD) := dpa_ex (Ex.new np) (dpa_ex e10 (dpa_ex (Ex.new nm) (dpa_ex e9 (dpa_ex (Ex.new nl) dys))))
      have dx' : Dp K (upd G p (.lst (List.replicate ((21 : Int) - ((as.map accD).length : Nat)).toNat [x]).flatten)) x (accD (0, 0, 1)) := dp_ex (Ex.new np) (dp_ex e10 (dp_ex (Ex.new nm) dx))
      have hn : ((21 : Int) - ((as.map accD).length : Nat)).toNat = 21 - as.length := by omega
      have hrl := dpa_len (dpa_rep dx' ((21 : Int) - ((as.map accD).length : Nat)).toNat)
      rw [List.length_replicate] at hrl
      have hyl := dpa_len dys'
      refine .inr (.inl ⟨l, p, ys, _, rfl, rfl, SqL.of hl, SqL.of upd_same, by rw [hrl, hyl]; exact Evl.sz_of (by omega), fun r nr => ?_⟩)
      refine k _ _ (.inr ⟨true, as.map accD ++ List.replicate ((21 : Int) - ((as.map accD).length : Nat)).toNat (accD (0, 0, 1)), .lst (SqL.of upd_same) (dpa_ex (Ex.new nr) (dpa_app dys' (dpa_rep dx' _))), ?_, ?_, .inl ?_⟩) (bb.trans (Bts.of (e6.trans (e7.trans (e8.trans ((Ex.new (o := .lst ys) nl).trans (e9.trans ((Ex.new (o := .lst [x]) nm).trans (e10.trans ((Ex.new np).trans (Ex.new nr))))))))))) ?_
      · rw [List.length_append, List.length_replicate]; omega
      · intro x hx
        rcases List.mem_append.mp hx with z | z
        · exact accOkA as x z
        · rw [(List.mem_replicate.mp z).2]; rfl
      · rw [List.length_append, List.length_replicate]; omega
      · exact (((((d6.mono e7).mono e8).mono (Ex.new nl)).mono e9).mono (Ex.new nm)).mono (e10.trans ((Ex.new np).trans (Ex.new nr)))
    · have hq7 := dp_ex e7 hq6
      have d7 := d6.mono e7
      have bl7 := bl6.mono e7
      obtain ⟨l1, hc1, hl1, hs1⟩ : ∃ l1 : List (Nat × Nat × Nat), cutD (as.map accD) none (some (j : Int)) = l1.map accD ∧ l1.length ≤ 7 ∧ ∀ x ∈ l1, x ∈ as := by
        unfold cutD
        rw [← List.map_drop, ← List.map_take]
        exact ⟨_, rfl, by rw [List.length_take, List.length_drop]; omega, fun x hx => List.mem_of_mem_drop (List.mem_of_mem_take hx)⟩
      obtain ⟨l2, hc2, hl2, hs2⟩ : ∃ l2 : List (Nat × Nat × Nat), cutD (as.map accD) (some (j : Int)) none = l2.map accD ∧ l2.length ≤ 7 ∧ ∀ x ∈ l2, x ∈ as := by
        unfold cutD
        rw [← List.map_drop, ← List.map_take]
        exact ⟨_, rfl, by rw [List.length_take, List.length_drop]; omega, fun x hx => List.mem_of_mem_drop (List.mem_of_mem_take hx)⟩
      refine s_retT (t_op (t_op (t_listOf (K := K) (ds := l1.map accD) (evd_is (evd_slL (K := K) (lo := none) (hi := some (j : Int)) (evd_var (i := 2) rfl hq7 (Ex.refl _)) eo_none (eo_some (K := K) (evd_varI rfl))) (by rw [hc1])) fun l ys H8 e8 nl dys => t_lst (t_cons (t_call1 (t_cons (t_v rfl (t_cons (t_v rfl (t_nil ?_))))))))))
      have d8 := (d7.mono e8).mono (Ex.new (o := .lst ys) nl)
      have bl8 := (bl7.mono e8).mono (Ex.new (o := .lst ys) nl)
      have hl8 : upd H8 l (.lst ys) l = some (.lst ys) := upd_same
      have hy8 := dpa_ex (Ex.new (o := .lst ys) nl) dys
      have hq8 := dp_ex (e8.trans (Ex.new (o := .lst ys) nl)) hq7
      have bb8 := bb.ex (e6.trans (e7.trans (e8.trans (Ex.new (o := .lst ys) nl))))
      have lin := (d7.mono e8).nin nl
      generalize upd H8 l (.lst ys) = G1 at *
      have hyl := dpa_len hy8
      rw [List.length_map] at hyl
      obtain ⟨vs, v1, v2, v3, v4⟩ := bl8
      refine ⟨a, c, p3, vs, rfl, SqL.of v1, v2, by omega, by omega, d8, fun i v H9 hi b9 d9 => t_nil ⟨by show 1 ≤ sizeLine; decide, fun m nm => ?_⟩⟩
      have hv9 := ((v4 v (List.mem_of_getElem? hi)).bts b9 d8.lsts).mono (Ex.new (o := .lst [v]) nm)
      have hl9 := (Ex.new (o := .lst [v]) nm) _ _ (b9 _ _ lin hl8)
      have hy9 := dpa_ex (Ex.new (o := .lst [v]) nm) (dpa_bts b9 d8.lsts (noAcc l1) hy8)
      have hq9 := dp_ex (Ex.new (o := .lst [v]) nm) (dpl_bts b9 d8.lsts (noAcc as) hq8 hnq)
      have bb9 := (bb8.trans b9).ex (Ex.new (o := .lst [v]) nm)
      have dd9 := d9.mono (Ex.new (o := .lst [v]) nm)
      have hm9 : upd H9 m (.lst [v]) m = some (.lst [v]) := upd_same
      generalize upd H9 m (.lst [v]) = G2 at *
      refine .inr (.inl ⟨l, m, ys, [v], rfl, rfl, SqL.of hl9, SqL.of hm9, by rw [hyl]; exact Evl.sz_of (by simp only [List.length_cons, List.length_nil]; omega), fun n nn => ?_⟩)
      have hn : upd G2 n (.lst (ys ++ [v])) n = some (.lst (ys ++ [v])) := upd_same
      have hv10 := hv9.mono (Ex.new (o := .lst (ys ++ [v])) nn)
      have hy10 := dpa_ex (Ex.new (o := .lst (ys ++ [v])) nn) hy9
      have hq10 := dp_ex (Ex.new (o := .lst (ys ++ [v])) nn) hq9
      have bb10 := bb9.ex (Ex.new (o := .lst (ys ++ [v])) nn)
      have dd10 := dd9.mono (Ex.new (o := .lst (ys ++ [v])) nn)
      generalize upd G2 n (.lst (ys ++ [v])) = G3 at *
      refine t_listOf (K := K) (ds := l2.map accD) (evd_is (evd_slL (K := K) (lo := some (j : Int)) (hi := none) (evd_var (i := 2) rfl hq10 (Ex.refl _)) (eo_some (K := K) (evd_varI rfl)) eo_none) (by rw [hc2])) fun l' ys' H10 e10 nl' dys' => ?_
      have e11 := e10.trans (Ex.new (o := .lst ys') nl')
      have hy' := dpa_ex (Ex.new (o := .lst ys') nl') dys'
      have hyl' := dpa_len hy'
      rw [List.length_map] at hyl'
      refine .inr (.inl ⟨n, l', ys ++ [v], ys', rfl, rfl, SqL.of (e11 _ _ hn), SqL.of upd_same, by rw [List.length_append, hyl, hyl']; exact Evl.sz_of (by simp only [List.length_cons, List.length_nil]; omega), fun r nr => ?_⟩)
      have e12 := e11.trans (Ex.new (o := .lst (ys ++ [v] ++ ys')) nr)
      obtain ⟨dz, z1, z2, z3⟩ := (hv10.mono e12).dp
      refine k _ _ (.inr ⟨true, l1.map accD ++ [dz] ++ l2.map accD, .lst (SqL.of upd_same) (dpa_app (dpa_app (dpa_ex e12 hy10) (.cons z3 .nil)) (dpa_ex (Ex.new nr) hy')), ?_, ?_, .inr ⟨dz, by simp, z2⟩⟩) (bb10.ex e12) (dd10.mono e12)
      · rw [List.length_append, List.length_append, List.length_map, List.length_map]; simp only [List.length_cons, List.length_nil]; omega
      · intro x hx
        rcases List.mem_append.mp hx with z | z
        · rcases List.mem_append.mp z with z | z
          · exact accOkA l1 x z
          · rw [List.mem_singleton.mp z]; exact z1
        · exact accOkA l2 x z
end Bw
end
section
set_option Elab.async false
set_option linter.all false
set_option maxRecDepth 100000
set_option maxHeartbeats 8000000
/-! the walks of changes. -/
namespace Bw
open PySem PySem.Spec PyProof.Rows L2 Bfb
local macro_rules | `(tactic| walk_at "ex") => `(tactic| first
  | assumption
  | exact Ex.refl _
  | (refine Ex.trans ?_ (by assumption); walk_at "ex"))
local macro_rules | `(tactic| walk_at "om") => `(tactic| first | omega | assumption | (left; constructor <;> omega) | (right; constructor <;> omega) | decide)
local macro_rules | `(tactic| walk_at "ln") => `(tactic| first | decide | (simp only [List.length_cons, List.length_nil, List.length_append, List.length_map]; omega))
local macro_rules | `(tactic| walk_at "rd") => `(tactic| first
  | with_reducible exact rd_plus
  | with_reducible exact rd_sub
  | with_reducible exact rd_lt
  | with_reducible exact rd_le
  | with_reducible exact rd_gt
  | with_reducible exact rd_ge
  | with_reducible exact rd_eqI
  | with_reducible exact rd_neI
  | ((with_reducible apply rd_eqD); rfl; rfl)
  | ((with_reducible apply rd_neD); rfl; rfl)
  | ((with_reducible apply rd_mul); walk_at "om")
  | ((with_reducible apply rd_div); walk_at "om"; walk_at "om")
  | ((with_reducible apply rd_mod); walk_at "om")
  | ((with_reducible apply rd_divW); walk_at "om"; walk_at "om")
  | ((with_reducible apply rd_ixT); rfl)
  | ((with_reducible apply rd_ixL); rfl)
  | with_reducible exact rd_isNi
  | with_reducible exact rd_isNn
  | with_reducible exact rd_isNt
  | with_reducible exact rd_notNn)
local macro_rules | `(tactic| walk_at "ev") => `(tactic| first
  | with_reducible exact evd_int
  | ((with_reducible apply evd_varI); rfl)
  | ((with_reducible apply evd_varB); rfl)
  | ((with_reducible apply evd_var); rfl; assumption; walk_at "ex")
  | with_reducible exact evd_bl
  | with_reducible exact evd_non
  | with_reducible exact evd_str
  | ((with_reducible apply evd_op); walk_at "ev"; walk_at "ev"; walk_at "rd")
  | ((with_reducible apply evd_tup); walk_at "ea"; walk_at "ln")
  | ((with_reducible apply evd_lst); walk_at "ea"; walk_at "ln")
  | ((with_reducible apply evd_isInt); walk_at "ev")
  | ((with_reducible apply evd_isBool); walk_at "ev")
  | ((with_reducible apply evd_isTuple); walk_at "ev")
  | ((with_reducible apply evd_cb); walk_at "ea"; walk_at "rc")
  | with_reducible exact evd_neg1
  | ((with_reducible apply evd_notV); walk_at "ev")
  | ((with_reducible apply evd_call); walk_at "ea"; assumption))
local macro_rules | `(tactic| walk_at "ea") => `(tactic| first
  | with_reducible exact evda_nil
  | ((with_reducible apply evda_cons); walk_at "ev"; walk_at "ea")
  | ((with_reducible apply evda_starT); walk_at "ev"; walk_at "ea")
  | ((with_reducible apply evda_starL); walk_at "ev"; walk_at "ea"))
local macro_rules | `(tactic| walk_at "rc") => `(tactic| first
  | with_reducible exact rc_len
  | with_reducible exact rc_lenT
  | with_reducible exact rc_tupL
  | with_reducible exact rc_tupT
  | with_reducible exact rc_listL
  | with_reducible exact rc_listT
  | with_reducible exact rc_min2
  | with_reducible exact rc_max2
  | with_reducible exact rc_int1
  | with_reducible exact rc_abs
  | with_reducible exact rc_all
  | with_reducible exact rc_sum)
local macro_rules | `(tactic| walk_at "et") => `(tactic| first
  | ((with_reducible apply et_test (K := ‹PySem.W.Frag›)); walk_at "ev")
  | ((with_reducible apply et_B (K := ‹PySem.W.Frag›)); walk_at "ev")
  | ((with_reducible apply et_not); walk_at "et"))

variable {P : Program} {w : World} {K : PySem.W.Frag} {mg : Str → Option Value} {base : Heap}
abbrev s_law_then : Stmt := topS 41
abbrev N_law_then : List Str := ["_law_one", "_law_other", "_law_state"]
theorem sc_law_then : FnScope N_law_then ["_law_one", "_law_other"] (defScope s_law_then) := ⟨rfl, rfl, rfl, by decide +kernel, rfl, by decide +kernel, by decide +kernel⟩
abbrev s_law_walk : Stmt := topS 42
abbrev N_law_walk : List Str := ["_law_first", "_law_row", "_law_second", "_law_one", "_law_other", "_law_seen", "_law_found"]
theorem sc_law_walk : FnScope N_law_walk ["_law_first", "_law_row", "_law_second"] (defScope s_law_walk) := ⟨rfl, rfl, rfl, by decide +kernel, rfl, by decide +kernel, by decide +kernel⟩
abbrev s_law_fits : Stmt := topS 43
abbrev N_law_fits : List Str := ["_law_walk_here", "_law_count", "_law_found", "_law_back"]
theorem sc_law_fits : FnScope N_law_fits ["_law_walk_here", "_law_count"] (defScope s_law_fits) := ⟨rfl, rfl, rfl, by decide +kernel, rfl, by decide +kernel, by decide +kernel⟩
abbrev s_law_pair_walks : Stmt := topS 52
abbrev N_law_pair_walks : List Str := ["_law_changes", "_law_found", "_law_i", "_law_first", "_law_j"]
theorem sc_law_pair_walks : FnScope N_law_pair_walks ["_law_changes"] (defScope s_law_pair_walks) := ⟨rfl, rfl, rfl, by decide +kernel, rfl, by decide +kernel, by decide +kernel⟩
def R_lthen (ds : List PyData) (d : PyData) : Prop := ∃ f g : List Nat, f.length ≤ 3 ∧ (∀ x ∈ f, x < g.length) ∧ ds = [tupI f, tupI g] ∧ d = tupI (thenF f g)
def spWalk (K : PySem.W.Frag) : Sp := fun vs H Q _ => ∃ (v u : V) (n : Nat) (f g : List Nat), vs = [v, .non, u] ∧ 0 < n ∧ n ≤ 3 ∧ Chg n f ∧ Chg n g ∧ Dp K H v (tupI f) ∧ Dp K H u (tupI g) ∧
  ∀ (t l : Addr) (bs : List Bool) (back : Nat) H', WalkOk f g bs back → H t = none → H l = none → t ≠ l → Ex H H' → H' t = some (.tup [.ref l, .int (back : Nat)]) → H' l = some (.lst (bs.map .bl)) → Q (.ref t) H'
theorem d_law_then (F : Fd K mg "_law_then" s_law_then) (B : Nm mg) : Df P w K mg base "_law_then" 1 ["_law_one", "_law_other"] (spP K R_lthen) := by
  refine d_pure F sc_law_then (fun _ _ _ _ _ _ us hl => match us, hl with | [_, _], _ => rfl) (by rintro _ _ ⟨f, g, hl, hx, rfl, rfl⟩; rfl) fun f cdv A outer s H vs ds d Q E hr hds hR k => ?_
  have hu64 := hr.units
  have hu65 := room65 hr
  have hu1 := room1 hr
  obtain ⟨f, g, hl, hx, rfl, rfl⟩ := hR
  obtain ⟨v0, v1, rfl, h0, h1⟩ := dpa2 hds
  refine ⟨_, (pss_one (ps_ret (pe_callTy call_tuple_of (by rfl) B.tuple (by decide +kernel) (pa_cons (pe_lc (own := [("_law_state", 2)]) rfl sc_law_then.nd (pi_seqK (K := K) rfl (pv 0)) (blkOk_by (own := [("_law_state", 2)]) (N := N_law_then) (sc := defScope s_law_then) (by decide +kernel)) (fun _ _ _ _ _ => (pg_name (i := 2) sc_law_then.nd rfl (.inl rfl))) (fun _ _ _ _ _ => pts_nil) (fun _ _ _ _ _ => (pe_ix (ix_K (K := K) rfl) (pv 1) (pv 2) (fun _ _ => rfl)))) pa_nil)))), ?_⟩
  try dsimp only [cxOf, Cx.nox, Cx.wish]
  have h0 : Dp K H v0 (.tuple (f.map numN)) := h0
  have h1 : Dp K H v1 (.tuple (g.map numN)) := h1
  refine s_ret K (d := tupI (thenF f g)) (evd_cb (evda_cons (evd_is (evd_lcI (b := false) numN f (fun _ => true) (fun x => numN (g.getD x 0)) (show EvD K _ _ _ (.tuple (f.map numN)) from by walk_at "ev") (by omega) (fun _ _ _ => rfl) fun c hc => ?_) (e := .list ((thenF f g).map numN)) (by rw [filter_yes]; unfold thenF; rw [List.map_map]; rfl)) evda_nil) rc_tupL) k
  refine lct_name (fun v => rfl) fun v H1 e dv => ⟨et_yes, fun _ => ?_⟩
  have dv : Dp K H1 v (.int (c : Nat)) := dv
  cases dp_int dv
  have hcl := hx c hc
  have ha : atI (g.map numN) (c : Nat) = some (numN (g.getD c 0)) := by
    unfold atI ixN
    rw [List.length_map, if_pos (by omega), if_pos (by omega)]
    show (g.map numN)[((c : Int)).toNat]? = _
    rw [show ((c : Int)).toNat = c by omega, List.getElem?_map, List.getElem?_eq_getElem hcl, List.getD_eq_getElem?_getD, List.getElem?_eq_getElem hcl]
    rfl
  exact evd_op (evd_var (i := 1) rfl h1 e) (evd_varI rfl) (rd_ixT ha)
theorem chg_then_in {n : Nat} {f g : List Nat} (h : Chg n f) (k : Chg n g) (hn : n ≤ 3) : R_lthen [tupI f, tupI g] (tupI (thenF f g)) := ⟨f, g, by rw [h.len]; exact hn, fun x hx => by rw [k.len]; exact h.lt x hx, rfl, rfl⟩
theorem d_law_walk (F : Fd K mg "_law_walk" s_law_walk) (B : Nm mg) (D_law_then : Df P w K mg base "_law_then" 1 ["_law_one", "_law_other"] (spP K R_lthen)) : Df P w K mg base "_law_walk" 2 ["_law_first", "_law_row", "_law_second"] (spWalk K) := by
  refine d_any F sc_law_walk (fun _ _ _ _ _ _ us hl => match us, hl with | [_, _, _], _ => rfl) (by rintro _ _ _ _ ⟨v, u, n, cf, cg, rfl, n0, n3, hf, hg, dv, du, k⟩; rfl) fun f cdv A outer s H vs Q E hr hR => ?_
  have hu64 := hr.units
  have hu65 := room65 hr
  have hu1 := room1 hr
  obtain ⟨v, u, n, cf, cg, rfl, n0, n3, hf, hg, dv, du, k⟩ := hR
  refine ⟨_, (pss_cons (ps_par (i := 3) (j := 4) (by rfl) sc_law_walk.nd rfl rfl (by decide) rfl rfl (pa_cons (pe_callTy call_tuple_of (by rfl) B.tuple (by decide +kernel) (pa_cons (pe_listRg rfl (by rfl) B.list (prg_1 (by rfl) B.range (pe_callB (call_lenK (K := K) rfl) (by rfl) B.len PySem.boot_len (pa_cons (pv 0) pa_nil)))) pa_nil)) (pa_cons (pe_callTy call_tuple_of (by rfl) B.tuple (by decide +kernel) (pa_cons (pe_listRg rfl (by rfl) B.list (prg_1 (by rfl) B.range (pe_callB (call_lenK (K := K) rfl) (by rfl) B.len PySem.boot_len (pa_cons (pv 0) pa_nil)))) pa_nil)) pa_nil)) (by rfl))
      (pss_cons (ps_par (i := 5) (j := 6) (by rfl) sc_law_walk.nd rfl rfl (by decide) rfl rfl (pa_cons (pe_dnewN (P := P) (w := w) rfl rfl) (pa_cons (pe_lst pa_nil) pa_nil)) (by rfl))
      (pss_cons (ps_while PassesOwn.never (pt_cmpR (op_notinN (K := K) (P := P) (w := w) hu64 rfl rfl rfl) (pe_tup (pa_cons (pv 3) (pa_cons (pv 4) pa_nil))) (pv 5) (by rfl)) (pss_cons (ps_dputN (K := K) (P := P) (w := w) hu64 rfl rfl rfl (pv 5) (pe_tup (pa_cons (pv 3) (pa_cons (pv 4) pa_nil))) (pe_callB (call_lenK (K := K) rfl) (by rfl) B.len PySem.boot_len (pa_cons (pv 6) pa_nil)) rfl)
      (pss_cons (ps_expr (pe_bm PySem.F.plainAttrs_list PySem.F.slot_list_append PySem.F.type_list_append mt_append (pv 6) (pa_cons (pe_ifExp (pt_cmpR op_isN (pv 1) pe_non (nomark _)) (pe_cmpR (op_eqK (K := K) hu64 rfl) (pv 3) (pv 4) (nomark _)) (pe_cmpR (op_eqK (K := K) hu64 rfl) (pe_df D_law_then (hr.mono (by decide)) (by rfl) (pa_cons (pv 3) (pa_cons (pv 1) pa_nil))) (pe_df D_law_then (hr.mono (by decide)) (by rfl) (pa_cons (pv 1) (pa_cons (pv 4) pa_nil))) (nomark _))) pa_nil)))
      (pss_one (ps_par (i := 3) (j := 4) (by rfl) sc_law_walk.nd rfl rfl (by decide) rfl rfl (pa_cons (pe_df D_law_then (hr.mono (by decide)) (by rfl) (pa_cons (pv 3) (pa_cons (pv 0) pa_nil))) (pa_cons (pe_df D_law_then (hr.mono (by decide)) (by rfl) (pa_cons (pv 4) (pa_cons (pv 2) pa_nil))) pa_nil)) (by rfl))))))
      (pss_one (ps_ret (pe_tup (pa_cons (pv 6) (pa_cons (pe_dgetN (K := K) (P := P) (w := w) hu64 rfl rfl rfl (pv 5) (pe_tup (pa_cons (pv 3) (pa_cons (pv 4) pa_nil))) (fun _ _ => rfl)) pa_nil)))))))), ?_⟩
  try dsimp only [cxOf, Cx.nox, Cx.wish]
  have dv' : Dp K H v (.tuple (cf.map numN)) := dv
  have e0 : ∀ {H'}, Ex H H' → EvD K (tCB (fun xs H Q => ∃ p ys, xs = [V.ref p] ∧ ((SqL K H p ys ∧ ∀ l, H l = none → Q (V.ref l) (upd H l (HO.tup ys))) ∨ SqT K H p ys ∧ Q (V.ref p) H))
      (tCons (tLstRg (tRg1 (tCB (fun xs H Q => ∃ p ys, xs = [V.ref p] ∧ (SqL K H p ys ∨ SqT K H p ys) ∧ Q (V.int ys.length) H) (tCons (tVar 0) tNil)))) tNil)) (L2.start N_law_walk [v, .non, u]) H' (tupI (List.range n)) := fun {H'} e =>
    evd_cb (evda_cons (evd_lstRg (evd_is (evd_cb (evda_cons (evd_var (i := 0) rfl dv' e) evda_nil) rc_lenT) (by rw [List.length_map, hf.len])) (by omega)) evda_nil) rc_tupL
  refine q_par K (d := tupI (List.range n)) (e := tupI (List.range n)) (evda_cons (e0 (Ex.refl _)) (evda_cons (e0 (Ex.refl _)) evda_nil)) fun v3 v4 H1 e1 d3 d4 => ?_
  refine q_parNN K fun dd p H2 e2 ndd npp hne nd op => ?_
  have hdd : H dd = none := fresh_ex e1 ndd
  have hpp : H p = none := fresh_ex e1 npp
  have d3' := dp_ex e2 d3
  have d4' := dp_ex e2 d4
  have e12 := e1.trans e2
  refine q_while (fun m σ' H' => ∃ (j : Nat) (v3 v4 : V) (ad : Nat → Addr), m = 730 - j ∧ (∀ i i', i < i' → i' < j → ¬(pwF cf i = pwF cf i' ∧ pwF cg i = pwF cg i')) ∧ σ' = [some v, some .non, some u, some v3, some v4, some (.ref dd), some (.ref p)] ∧ Ex H H' ∧ Dp K H' v3 (tupI (pwF cf j)) ∧ Dp K H' v4 (tupI (pwF cg j)) ∧
    NDict K P w H' dd ((List.range j).map fun i => (pwF cf i, pwF cg i, ad i, i)) ∧ Own K H' p ((List.range j).map fun i => .bool (decide (Agree cf cg i)))) 730 ⟨0, v3, v4, fun _ => 0, rfl, fun i i' _ h => absurd h (Nat.not_lt_zero _), rfl, e12, by rw [pwF, hf.len]; exact d3', by rw [pwF, hg.len]; exact d4', nd, op⟩ ?_
  rintro m σ' H' ⟨j, v3, v4, ad, rfl, hd, rfl, eH, w3, w4, wn, wo⟩
  have hj := walk_len hf hg n3 hd
  have hkey : ∀ {H2}, Ex H' H2 → EvD K (tTup (tCons (tVar 3) (tCons (tVar 4) tNil))) [some v, some .non, some u, some v3, some v4, some (.ref dd), some (.ref p)] H2 (PairF (pwF cf j) (pwF cg j)) := fun {H2} e => evd_tup (evda_cons (evd_var (i := 3) rfl w3 e) (evda_cons (evd_var (i := 4) rfl w4 e) evda_nil)) (by show 2 ≤ 100000; decide)
  refine ⟨_, et_notinN (hkey (Ex.refl _)) rfl wn, fun hb H3 e3 => ?_, fun hb H3 e3 => ?_⟩
  · have hno : hasN ((List.range j).map fun i => (pwF cf i, pwF cg i, ad i, i)) (pwF cf j) (pwF cg j) = false := by simpa using hb
    have hnew : ∀ i, i < j → ¬(pwF cf i = pwF cf j ∧ pwF cg i = pwF cg j) := fun i hi e => by
      unfold hasN at hno
      rw [List.any_map, List.any_eq_false] at hno
      refine hno i (List.mem_range.mpr hi) ?_
      show (decide (pwF cf i = pwF cf j) && decide (pwF cg i = pwF cg j)) = true
      rw [decide_eq_true e.1, decide_eq_true e.2]; rfl
    have wo3 := wo.mono e3
    have wdp := wo3.dp
    refine q_putN K (n := j) (evd_is (evd_cb (evda_cons (evd_var (i := 6) rfl wdp (Ex.refl _)) evda_nil) rc_len) (by rw [List.length_map, List.length_range])) rfl (hkey e3) (wn.mono e3) hno (by rw [List.length_map, List.length_range]; omega) fun b H4 e4 db wn4 dx => ?_
    have eH4 : Ex H (upd H4 dd (ND P w dd ((List.range j).map (fun i => (pwF cf i, pwF cg i, ad i, i)) ++ [(pwF cf j, pwF cg j, b, j)]))) := ex_upd (eH.trans (e3.trans e4)) hdd
    have wo4 := (wo3.mono e4).dex dx
    have w34 := dp_dex dx (dp_ex (e3.trans e4) w3)
    have w44 := dp_dex dx (dp_ex (e3.trans e4) w4)
    generalize upd H4 dd (ND P w dd ((List.range j).map (fun i => (pwF cf i, pwF cg i, ad i, i)) ++ [(pwF cf j, pwF cg j, b, j)])) = H5 at *
    have noB : noLs ((List.range j).map fun i => PyData.bool (decide (Agree cf cg i))) = true := noLs_all fun d hd => by
      obtain ⟨i, _, rfl⟩ := List.mem_map.mp hd
      rfl
    refine q_app K wo4 rfl noB (d := .bool (decide (Agree cf cg j))) rfl (by rw [List.length_map, List.length_range]; omega) (evd_if (b := true) (et_test (K := K) (evd_op (evd_var (i := 1) rfl .non (Ex.refl _)) evd_non rd_isNn)) (fun _ => evd_is (evd_op (evd_var (i := 3) rfl w34 (Ex.refl _)) (evd_var (i := 4) rfl w44 (Ex.refl _)) (rd_eqD (shaped_tupI _) (shaped_tupI _))) (by rw [eqv_tupI]; rfl)) fun z => nomatch z) fun H6 b6 o6 => ?_
    have eH6 : Ex H H6 := ex_bts eH4 b6 hpp
    have w36 := dp_bts b6 (lsts1 wo4) (show noL (tupI _) = true from noLsI _) w34
    have w46 := dp_bts b6 (lsts1 wo4) (show noL (tupI _) = true from noLsI _) w44
    have wn6 := wn4.bts b6 (lsts1 wo4)
    have cfj := chg_pw hf j
    have cgj := chg_pw hg j
    refine s_par K (d := tupI (thenF (pwF cf j) cf)) (e := tupI (thenF (pwF cg j) cg)) (evda_cons (evd_call (ds := [tupI (pwF cf j), tupI cf]) (evda_cons (evd_var (i := 3) rfl w36 (Ex.refl _)) (evda_cons (evd_var (i := 0) rfl dv eH6) evda_nil)) (chg_then_in cfj hf n3))
      (evda_cons (evd_call (ds := [tupI (pwF cg j), tupI cg]) (evda_cons (evd_var (i := 4) rfl w46 (Ex.refl _)) (evda_cons (evd_var (i := 2) rfl du eH6) evda_nil)) (chg_then_in cgj hg n3)) evda_nil)) fun y3 y4 H7 e7 z3 z4 => ?_
    refine ⟨730 - (j + 1), by omega, j + 1, y3, y4, fun i => if i = j then b else ad i, rfl, fun i i' h1 h2 e => ?_, rfl, eH6.trans e7, z3, z4, ?_, ?_⟩
    · by_cases e' : i' = j
      · rw [e'] at h1 e
        exact hnew i h1 e
      · exact hd i i' h1 (by omega) e
    · have : ((List.range (j + 1)).map fun i => (pwF cf i, pwF cg i, (if i = j then b else ad i), i)) = ((List.range j).map fun i => (pwF cf i, pwF cg i, ad i, i)) ++ [(pwF cf j, pwF cg j, b, j)] := by
        rw [List.range_succ, List.map_append]
        congr 1
        · refine List.map_congr_left fun i hi => ?_
          rw [if_neg (by have := List.mem_range.mp hi; omega)]
        · simp
      rw [this]
      exact wn6.mono e7
    · rw [List.range_succ, List.map_append]
      exact o6.mono e7
  · have hin : hasN ((List.range j).map fun i => (pwF cf i, pwF cg i, ad i, i)) (pwF cf j) (pwF cg j) = true := by simpa using hb
    obtain ⟨i, hi, ei1, ei2⟩ : ∃ i, i < j ∧ pwF cf i = pwF cf j ∧ pwF cg i = pwF cg j := by
      unfold hasN at hin
      rw [List.any_map] at hin
      obtain ⟨i, hi, e⟩ := List.any_eq_true.mp hin
      have e : (decide (pwF cf i = pwF cf j) && decide (pwF cg i = pwF cg j)) = true := e
      rw [Bool.and_eq_true] at e
      exact ⟨i, List.mem_range.mp hi, of_decide_eq_true e.1, of_decide_eq_true e.2⟩
    have wo3 := wo.mono e3
    have hget : EvD K (tDGetN K P w (tVar 5) (tTup (tCons (tVar 3) (tCons (tVar 4) tNil)))) [some v, some .non, some u, some v3, some v4, some (.ref dd), some (.ref p)] H3 (.int (i : Nat)) :=
      evd_getN (e := (pwF cf i, pwF cg i, ad i, i)) rfl (by rw [show PairF (pwF cf i, pwF cg i, ad i, i).1 (pwF cf i, pwF cg i, ad i, i).2.1 = PairF (pwF cf j) (pwF cg j) by rw [← ei1, ← ei2]]; exact hkey e3) (wn.mono e3) (List.mem_map.mpr ⟨i, List.mem_range.mpr hi, rfl⟩)
    refine s_retT (t_tup2 (t_v rfl (hget H3 (Ex.refl _) _ fun x H4 e4 dx t nt => ?_)))
    cases dp_int dx
    obtain ⟨acc, a1, a2⟩ := wo3.ex
    have a2 : DpAll K H3 acc (((List.range j).map fun i => decide (Agree cf cg i)).map .bool) := by rw [List.map_map]; exact a2
    have a2 := dpa_bools a2
    subst a2
    have bl : ((List.range j).map fun i => decide (Agree cf cg i)).length = j := by rw [List.length_map, List.length_range]
    have eA := eH.trans (e3.trans e4)
    have ntH : H t = none := fresh_ex eA nt
    have hpt : t ≠ p := fun z => by rw [z, e4 _ _ a1] at nt; cases nt
    exact k t p _ i _ ⟨by rw [bl], by rw [bl]; exact hi, by rw [bl]; omega, by rw [bl]; exact ei1.symm, by rw [bl]; exact ei2.symm⟩ ntH hpp hpt (eA.trans (Ex.new nt)) upd_same ((Ex.new nt) _ _ (e4 _ _ a1))
end Bw
end
section
set_option Elab.async false
set_option linter.all false
set_option maxRecDepth 100000
set_option maxHeartbeats 8000000
/-! what the walks tell, for each two changes. -/
namespace Bw
open PySem PySem.Spec PyProof.Rows L2 Bfb
local macro_rules | `(tactic| walk_at "ex") => `(tactic| first
  | assumption
  | exact Ex.refl _
  | (refine Ex.trans ?_ (by assumption); walk_at "ex"))
local macro_rules | `(tactic| walk_at "om") => `(tactic| first | omega | assumption | (left; constructor <;> omega) | (right; constructor <;> omega) | decide)
local macro_rules | `(tactic| walk_at "ln") => `(tactic| first | decide | (simp only [List.length_cons, List.length_nil, List.length_append, List.length_map]; omega))
local macro_rules | `(tactic| walk_at "rd") => `(tactic| first
  | with_reducible exact rd_plus
  | with_reducible exact rd_sub
  | with_reducible exact rd_lt
  | with_reducible exact rd_le
  | with_reducible exact rd_gt
  | with_reducible exact rd_ge
  | with_reducible exact rd_eqI
  | with_reducible exact rd_neI
  | ((with_reducible apply rd_eqD); rfl; rfl)
  | ((with_reducible apply rd_neD); rfl; rfl)
  | ((with_reducible apply rd_mul); walk_at "om")
  | ((with_reducible apply rd_div); walk_at "om"; walk_at "om")
  | ((with_reducible apply rd_mod); walk_at "om")
  | ((with_reducible apply rd_divW); walk_at "om"; walk_at "om")
  | ((with_reducible apply rd_ixT); rfl)
  | ((with_reducible apply rd_ixL); rfl)
  | with_reducible exact rd_isNi
  | with_reducible exact rd_isNn
  | with_reducible exact rd_isNt
  | with_reducible exact rd_notNn)
local macro_rules | `(tactic| walk_at "ev") => `(tactic| first
  | with_reducible exact evd_int
  | ((with_reducible apply evd_varI); rfl)
  | ((with_reducible apply evd_varB); rfl)
  | ((with_reducible apply evd_var); rfl; assumption; walk_at "ex")
  | with_reducible exact evd_bl
  | with_reducible exact evd_non
  | with_reducible exact evd_str
  | ((with_reducible apply evd_op); walk_at "ev"; walk_at "ev"; walk_at "rd")
  | ((with_reducible apply evd_tup); walk_at "ea"; walk_at "ln")
  | ((with_reducible apply evd_lst); walk_at "ea"; walk_at "ln")
  | ((with_reducible apply evd_isInt); walk_at "ev")
  | ((with_reducible apply evd_isBool); walk_at "ev")
  | ((with_reducible apply evd_isTuple); walk_at "ev")
  | ((with_reducible apply evd_cb); walk_at "ea"; walk_at "rc")
  | with_reducible exact evd_neg1
  | ((with_reducible apply evd_notV); walk_at "ev")
  | ((with_reducible apply evd_call); walk_at "ea"; assumption))
local macro_rules | `(tactic| walk_at "ea") => `(tactic| first
  | with_reducible exact evda_nil
  | ((with_reducible apply evda_cons); walk_at "ev"; walk_at "ea")
  | ((with_reducible apply evda_starT); walk_at "ev"; walk_at "ea")
  | ((with_reducible apply evda_starL); walk_at "ev"; walk_at "ea"))
local macro_rules | `(tactic| walk_at "rc") => `(tactic| first
  | with_reducible exact rc_len
  | with_reducible exact rc_lenT
  | with_reducible exact rc_tupL
  | with_reducible exact rc_tupT
  | with_reducible exact rc_listL
  | with_reducible exact rc_listT
  | with_reducible exact rc_min2
  | with_reducible exact rc_max2
  | with_reducible exact rc_int1
  | with_reducible exact rc_abs
  | with_reducible exact rc_all
  | with_reducible exact rc_sum)
local macro_rules | `(tactic| walk_at "et") => `(tactic| first
  | ((with_reducible apply et_test (K := ‹PySem.W.Frag›)); walk_at "ev")
  | ((with_reducible apply et_B (K := ‹PySem.W.Frag›)); walk_at "ev")
  | ((with_reducible apply et_not); walk_at "et"))

variable {P : Program} {w : World} {K : PySem.W.Frag} {mg : Str → Option Value} {base : Heap}
def R_lfits (ds : List PyData) (d : PyData) : Prop := ∃ (n : Nat) (f g : List Nat) (bs : List Bool) (back c : Nat), Chg n f ∧ Chg n g ∧ WalkOk f g bs back ∧ ds = [.tuple [.list (bs.map .bool), .int (back : Nat)], .int (c : Nat)] ∧ d = .bool (decide (Agree f g c))
def spPairs (K : PySem.W.Frag) : Sp := fun vs H Q _ => ∃ (v : V) (n : Nat) (f0 f1 f2 : List Nat), vs = [v] ∧ Dp K H v (.list [tupI f0, tupI f1, tupI f2]) ∧ 0 < n ∧ n ≤ 3 ∧ Chg n f0 ∧ Chg n f1 ∧ Chg n f2 ∧
  ∀ (d t01 t02 t12 : Addr) H', H d = none → Ex H H' → H' d = some (.dT [(kyN (0, 1), .ref t01), (kyN (0, 2), .ref t02), (kyN (1, 2), .ref t12)]) → WkF H H' t01 f0 f1 → WkF H H' t02 f0 f2 → WkF H H' t12 f1 f2 → Q (.ref d) H'
theorem atI_nat {ds : List PyData} {i : Nat} {d : PyData} (h : ds[i]? = some d) : atI ds (i : Nat) = some d := by
  have hl := (List.getElem?_eq_some_iff.mp h).1
  unfold atI ixN
  rw [if_pos (by omega), if_pos (by omega)]
  exact h
theorem d_law_fits (F : Fd K mg "_law_fits" s_law_fits) (B : Nm mg) : Df P w K mg base "_law_fits" 1 ["_law_walk_here", "_law_count"] (spP K R_lfits) := by
  refine d_pure F sc_law_fits (fun _ _ _ _ _ _ us hl => match us, hl with | [_, _], _ => rfl) (by rintro _ _ ⟨n, f, g, bs, back, c, hf, hg, hw, rfl, rfl⟩; rfl) fun f cdv A outer s H vs ds d Q E hr hds hR k => ?_
  have hu64 := hr.units
  have hu65 := room65 hr
  have hu1 := room1 hr
  obtain ⟨n, f, g, bs, back, c, hf, hg, hw, rfl, rfl⟩ := hR
  obtain ⟨v0, v1, rfl, h0, h1⟩ := dpa2 hds
  cases dp_int h1
  refine ⟨_, (pss_cons (ps_asg (pv 0) (pg_tupK (K := K) (n := 2) rfl rfl (pgs_cons (pg_name (i := 2) sc_law_fits.nd rfl (.inl rfl)) (pgs_cons (pg_name (i := 3) sc_law_fits.nd rfl (.inl rfl)) pgs_nil))))
      (pss_one (ps_ret (pe_ifExp (pt_cmpR op_lt (pv 1) (pv 3) (nomark _)) (pe_ix (ix_K (K := K) rfl) (pv 2) (pv 1) (fun _ _ => rfl)) (pe_ix (ix_K (K := K) rfl) (pv 2) (pe_op (op_plusK (K := K) rfl) (pv 3) (pe_op op_modN (pe_callTy call_int1 (by rfl) B.int (by decide +kernel) (pa_cons (pe_op op_sub (pv 1) (pv 3)) pa_nil)) (pe_op op_sub (pe_callB (call_lenK (K := K) rfl) (by rfl) B.len PySem.boot_len (pa_cons (pv 2) pa_nil)) (pv 3)))) (fun _ _ => rfl)))))), ?_⟩
  try dsimp only [cxOf, Cx.nox, Cx.wish]
  have fo := fit_ok hf hg hw c
  have lt := hw.lt
  have get : ∀ j : Nat, bs[j]? = some (decide (Agree f g c)) → atI (bs.map PyData.bool) (j : Nat) = some (.bool (decide (Agree f g c))) := fun j hj => atI_nat (by rw [List.getElem?_map, hj]; rfl)
  refine q_asg K (d := .tuple [.list (bs.map .bool), .int (back : Nat)]) (by walk_at "ev") fun v H1 e1 dv => ?_
  refine g_two dv fun v2 v3 d2 d3 => ?_
  cases dp_int d3
  refine s_ret K (d := .bool (decide (Agree f g c))) (evd_if (b := decide ((c : Int) < (back : Int))) (by walk_at "et") (fun hc => ?_) (fun hc => ?_)) fun v H2 e2 dv => k v H2 (e1.trans e2) dv
  · have hc : c < back := by have := of_decide_eq_true hc; omega
    have e : fitAt bs back c = c := by unfold fitAt; rw [if_pos hc]
    rw [e] at fo
    exact evd_op (evd_var (i := 2) rfl d2 (Ex.refl _)) (evd_varI rfl) (rd_ixL (get c fo))
  · have hc : ¬ c < back := by have := of_decide_eq_false hc; omega
    have e : fitAt bs back c = back + (c - back) % (bs.length - back) := by unfold fitAt; rw [if_neg hc]
    rw [e] at fo
    have hne : ((bs.map PyData.bool).length : Int) - (back : Int) ≠ 0 := by rw [List.length_map]; omega
    refine evd_op (evd_var (i := 2) rfl d2 (Ex.refl _)) (evd_is (evd_op (evd_varI rfl) (evd_op (evd_cb (evda_cons (evd_op (evd_varI rfl) (evd_varI rfl) rd_sub) evda_nil) rc_int1) (evd_op (evd_cb (evda_cons (evd_var (i := 2) rfl d2 (Ex.refl _)) evda_nil) rc_len) (evd_varI rfl) rd_sub) (rd_mod hne)) rd_plus) (e := .int ((back + (c - back) % (bs.length - back) : Nat) : Int)) ?_) (rd_ixL (get _ fo))
    have e1 : (c : Int) - (back : Int) = ((c - back : Nat) : Int) := by omega
    have e2 : ((bs.map PyData.bool).length : Int) - (back : Int) = ((bs.length - back : Nat) : Int) := by rw [List.length_map]; omega
    rw [e1, e2, fmodN, Int.natCast_add]
def keysI (i j : Nat) : List (Nat × Nat) := (List.range i).flatMap (rowsOf 3) ++ (rowsOf 3 i).take j
theorem keysI_new : ∀ i, i < 3 → ∀ j, j < 3 - (i + 1) → (rowsOf 3 i)[j]? = some (i, i + 1 + j) ∧ (i, i + 1 + j) ∉ keysI i j := by decide
theorem keysI_next {i j : Nat} {k : Nat × Nat} (h : (rowsOf 3 i)[j]? = some k) : keysI i (j + 1) = keysI i j ++ [k] := by
  unfold keysI
  rw [take_snoc h, List.append_assoc]
theorem keysI_row {i : Nat} : keysI i (3 - (i + 1)) = keysI (i + 1) 0 := by
  unfold keysI
  have hl : (rowsOf 3 i).length = 3 - (i + 1) := by unfold rowsOf; rw [List.length_map, List.length_range]
  rw [← hl, List.take_length, List.range_succ, List.flatMap_append, List.take_zero, List.append_nil]
  simp
def entA (T : Nat × Nat → Addr) (ks : List (Nat × Nat)) : List (TK × V) := ks.map fun k => (kyN k, .ref (T k))
theorem entA_put {T : Nat × Nat → Addr} {ks : List (Nat × Nat)} {k : Nat × Nat} {t : Addr} (h : k ∉ ks) : putK (entA T ks) (kyN k) (.ref t) = entA (fun l => if l = k then t else T l) (ks ++ [k]) := by
  unfold putK
  have hno : ((entA T ks).any fun kv => decide (kv.1 = kyN k)) = false := by
    rw [List.any_eq_false]
    intro p hp
    obtain ⟨l, hl, rfl⟩ := List.mem_map.mp hp
    intro z
    have z : kyN l = kyN k := of_decide_eq_true z
    exact h (kyN_inj z ▸ hl)
  rw [hno, if_neg Bool.false_ne_true]
  unfold entA
  rw [List.map_append]
  congr 1
  · refine List.map_congr_left fun l hl => ?_
    show (kyN l, V.ref (T l)) = (kyN l, V.ref (if l = k then t else T l))
    rw [if_neg (fun z : l = k => h (z ▸ hl))]
  · simp
theorem d_law_pair_walks (F : Fd K mg "_law_pair_walks" s_law_pair_walks) (B : Nm mg) (D_law_walk : Df P w K mg base "_law_walk" 2 ["_law_first", "_law_row", "_law_second"] (spWalk K)) : Df P w K mg base "_law_pair_walks" 3 ["_law_changes"] (spPairs K) := by
  refine d_any F sc_law_pair_walks (fun _ _ _ _ _ _ us hl => match us, hl with | [_], _ => rfl) (by rintro _ _ _ _ ⟨v, n, f0, f1, f2, rfl, dv, n0, n3, h0, h1, h2, k⟩; rfl) fun f cdv A outer s H vs Q E hr hR => ?_
  have hu64 := hr.units
  have hu65 := room65 hr
  have hu1 := room1 hr
  obtain ⟨v, n, f0, f1, f2, rfl, dv, n0, n3, h0, h1, h2, k⟩ := hR
  refine ⟨_, (pss_cons (ps_set (i := 1) sc_law_pair_walks.nd rfl (.inl rfl) pe_dnewT)
      (pss_cons (ps_for PassesOwn.never rfl (pi_enum (by rfl) B.enumerate (pa_cons (pv 0) pa_nil)) (pg_tupK (K := K) (n := 2) rfl rfl (pgs_cons (pg_name (i := 2) sc_law_pair_walks.nd rfl (.inl rfl)) (pgs_cons (pg_name (i := 3) sc_law_pair_walks.nd rfl (.inl rfl)) pgs_nil))) (pss_one (ps_for PassesOwn.never rfl (pi_range2 (by rfl) B.range (pa_cons (pe_op (op_plusK (K := K) rfl) (pv 2) pe_int) (pa_cons (pe_callB (call_lenK (K := K) rfl) (by rfl) B.len PySem.boot_len (pa_cons (pv 0) pa_nil)) pa_nil))) (pg_name (i := 4) sc_law_pair_walks.nd rfl (.inl rfl)) (pss_one (ps_dput hu1 (pv 1) (pe_tup (pa_cons (pv 2) (pa_cons (pv 4) pa_nil))) (pe_df D_law_walk (hr.mono (by decide)) (by rfl) (pa_cons (pv 3) (pa_cons pe_non (pa_cons (pe_ix (ix_K (K := K) rfl) (pv 0) (pv 4) (fun _ _ => rfl)) pa_nil)))) rfl)))))
      (pss_one (ps_ret (pv 1))))), ?_⟩
  try dsimp only [cxOf, Cx.nox, Cx.wish]
  obtain ⟨Fn, hF, hC⟩ : ∃ Fn : Nat → List Nat, (∀ i d, ([tupI f0, tupI f1, tupI f2] : List PyData)[i]? = some d → d = tupI (Fn i) ∧ i < 3) ∧ Fn 0 = f0 ∧ Fn 1 = f1 ∧ Fn 2 = f2 ∧ (∀ i, i < 3 → ([tupI f0, tupI f1, tupI f2] : List PyData)[i]? = some (tupI (Fn i)) ∧ Chg n (Fn i)) := by
    refine ⟨fun i => match i with | 0 => f0 | 1 => f1 | _ => f2, fun i d hd => ?_, rfl, rfl, rfl, fun i hi => ?_⟩
    · match i, hd with
      | 0, hd => cases hd; exact ⟨rfl, by decide⟩
      | 1, hd => cases hd; exact ⟨rfl, by decide⟩
      | 2, hd => cases hd; exact ⟨rfl, by decide⟩
      | i + 3, hd => simp at hd
    · match i, hi with
      | 0, _ => exact ⟨rfl, h0⟩
      | 1, _ => exact ⟨rfl, h1⟩
      | 2, _ => exact ⟨rfl, h2⟩
  obtain ⟨F0, F1, F2, hC⟩ := hC
  refine q_asgT (t_dn fun d nd => ?_)
  show tSeq _ _ _ [some v, some (.ref d), none, none, none] (upd H d (.dT []))
  have eD : Ex H (upd H d (.dT [])) := Ex.new nd
  let QI : Nat → Nat → Hp → Prop := fun i j H' => ∃ T : Nat × Nat → Addr, Ex H H' ∧ H' d = some (.dT (entA T (keysI i j))) ∧ ∀ k ∈ keysI i j, WkF H H' (T k) (Fn k.1) (Fn k.2)
  have qiX : ∀ {i j H' H''}, Ex H' H'' → QI i j H' → QI i j H'' := fun {i j H' H''} e ⟨T, a1, a2, a3⟩ => ⟨T, a1.trans e, e _ _ a2, fun k hk => (a3 k hk).mono e⟩
  refine q_forEL K (i := 0) rfl (dp_ex eD dv) ⟨fun i σ' H' => ∃ (x2 x3 x4 : Option V), σ' = [some v, some (.ref d), x2, x3, x4] ∧ QI i 0 H', ⟨none, none, none, rfl, fun _ => 0, eD, upd_same, fun _ h => nomatch h⟩, fun i σ' H' ⟨_, _, _, _, T, e, _⟩ => dp_ex e dv, ?_, ?_⟩
  · rintro i x y σ' H' H2 hx ⟨x2, x3, x4, rfl, q⟩ e2 dy
    obtain ⟨rfl, hi3⟩ := hF i x hx
    refine g_two dy fun vi vf di df => ?_
    cases dp_int di
    have q2 := qiX e2 q
    obtain ⟨T, a1, a2, a3⟩ := q2
    refine s_forR2 K (lo := i + 1) (hi := 3) (evda_cons (evd_is (evd_op (evd_varI rfl) evd_int rd_plus) (by rw [Int.natCast_add]; rfl)) (evda_cons (evd_is (evd_cb (evda_cons (evd_var (i := 0) rfl dv a1) evda_nil) rc_len) rfl) evda_nil)) (by omega) (by omega) fun H3 e3 => ⟨fun j σ' H' => ∃ x4, σ' = [some v, some (.ref d), some (.int (i : Nat)), some vf, x4] ∧ Dp K H' vf (tupI (Fn i)) ∧ QI i j H', ⟨x4, rfl, dp_ex e3 df, qiX e3 ⟨T, a1, a2, a3⟩⟩, ?_, ?_⟩
    · rintro j σ' H4 hj ⟨x4, rfl, d4, T, b1, b2, b3⟩
      obtain ⟨hk1, hk2⟩ := keysI_new i hi3 j hj
      have hi2 : i + 1 + j < 3 := by omega
      have dF := (hC i hi3).2
      have dG := (hC (i + 1 + j) hi2).2
      have hix : EvD K (tOp (rIx K) (tVar 0) (tVar 4)) [some v, some (.ref d), some (.int (i : Nat)), some vf, some (.int (i + 1 + j : Nat))] H4 (tupI (Fn (i + 1 + j))) := evd_op (evd_var (i := 0) rfl dv b1) (evd_varI rfl) (rd_ixL (atI_nat (hC (i + 1 + j) hi2).1))
      refine t_call1 (t_cons (t_v rfl (t_cons (t_c (t_cons (hix H4 (Ex.refl _) _ fun vg H5 e5 dg => t_nil ?_))))))
      refine ⟨vf, vg, n, Fn i, Fn (i + 1 + j), rfl, n0, n3, dF, dG, dp_ex e5 d4, dg, fun t l bs back H6 ok ht hl hne e6 ht' hl' => t_v rfl (t_tup (t_cons (t_v rfl (t_cons (t_v rfl (t_nil ⟨by show 2 ≤ sizeLine; decide, fun b nb => ?_⟩))))))⟩
      have e56 := e5.trans e6
      have e6b := Ex.new (o := .tup [.int (i : Nat), .int (i + 1 + j : Nat)]) nb
      have eb := e56.trans e6b
      have hdd := eb _ _ b2
      refine ⟨d, _, rfl, DPut.t (k := kyN (i, i + 1 + j)) hdd upd_same (by unfold entA; rw [List.length_map]; unfold keysI; rw [List.length_append, List.length_take]; have := pairs_len 3 i; exact Evl.sz_lt (by omega)), ?_⟩
      rw [entA_put hk2]
      have hl5 : H l = none := fresh_ex (b1.trans e5) hl
      have w0 : WkF H (upd H6 b (.tup [.int (i : Nat), .int (i + 1 + j : Nat)])) t (Fn i) (Fn (i + 1 + j)) := ⟨l, bs, back, hl5, ok, e6b _ _ ht', e6b _ _ hl'⟩
      refine ⟨_, rfl, dp_bts (Bts.upd (S := [d]) (by simp)) (fun x hx => by rw [List.mem_singleton.mp hx]; exact .inr ⟨_, hdd⟩) (show noL (tupI _) = true from noLsI _) (dp_ex eb d4), fun l => if l = (i, i + 1 + j) then t else T l, ex_upd (b1.trans eb) nd, by rw [keysI_next hk1]; exact upd_same, fun k hk => ?_⟩
      rw [keysI_next hk1] at hk
      rcases List.mem_append.mp hk with z | z
      · have : k ≠ (i, i + 1 + j) := fun e => hk2 (e ▸ z)
        show WkF H _ (if k = (i, i + 1 + j) then t else T k) _ _
        rw [if_neg this]
        exact ((b3 k z).mono eb).upd hdd
      · rw [List.mem_singleton.mp z]
        show WkF H _ (if (i, i + 1 + j) = (i, i + 1 + j) then t else T (i, i + 1 + j)) _ _
        rw [if_pos rfl]
        exact w0.upd hdd
    · rintro σ' H4 ⟨x4, rfl, d4, T, b1, b2, b3⟩
      exact ⟨_, _, _, rfl, T, b1, by rw [← keysI_row]; exact b2, by rw [← keysI_row]; exact b3⟩
  · rintro σ' H' ⟨x2, x3, x4, rfl, T, a1, a2, a3⟩
    have a2 : H' d = some (.dT [(kyN (0, 1), .ref (T (0, 1))), (kyN (0, 2), .ref (T (0, 2))), (kyN (1, 2), .ref (T (1, 2)))]) := a2
    have w01 := a3 (0, 1) (show (0, 1) ∈ keysI 3 0 by decide)
    have w02 := a3 (0, 2) (show (0, 2) ∈ keysI 3 0 by decide)
    have w12 := a3 (1, 2) (show (1, 2) ∈ keysI 3 0 by decide)
    rw [F0, F1] at w01
    rw [F0, F2] at w02
    rw [F1, F2] at w12
    exact s_retT (t_v rfl (k d _ _ _ H' nd a1 a2 w01 w02 w12))
end Bw
end
section
set_option Elab.async false
set_option linter.all false
set_option maxRecDepth 100000
set_option maxHeartbeats 4000000
/-! comprehensions over range(lo, hi); comprehensions that draw; the walk over a locked table. -/
namespace Bw
open PySem PySem.Spec PyProof.Rows L2 Bfb
section
variable {K : PySem.W.Frag} {σ : L2.St} {H H' : Hp} {te : TE} {tt : TT} {g : TG} {vs : List Nat} {a c : Addr}
/-- a datum in a new list -/
def EvF (K : PySem.W.Frag) (te : TE) (σ : L2.St) (H : Hp) (d : PyData) : Prop := ∀ H1, Ex H H1 → ∀ Q : VK, (∀ l H2, Ex H1 H2 → H1 l = none → Dp K H2 (.ref l) d → Q (.ref l) H2) → te σ H1 Q
theorem EvF.evd {d : PyData} (h : EvF K te σ H d) : EvD K te σ H d := fun H1 e Q q => h H1 e Q fun l H2 e2 _ dl => q _ H2 e2 dl
theorem evf_is {d e : PyData} (h : EvF K te σ H d) (q : d = e) : EvF K te σ H e := q ▸ h
theorem evf_lcR2 {ta : TA} {lo hi : Nat} (f : Nat → Bool) (el : Nat → PyData) (hs : EvDA K ta σ H [.int (lo : Nat), .int (hi : Nat)]) (hz0 : lo ≤ 100000) (hz : hi ≤ 100000) (hn : ∀ i, i < hi - lo → f i = true → noL (el i) = true)
    (ht : ∀ i, i < hi - lo → LcTurn K g tt te vs σ H (.int (lo + i : Nat)) (f i) (el i)) : EvF K (tLc (iRng2 ta) g tt te vs) σ H (.list (((List.range (hi - lo)).filter f).map el)) := by
  intro H0 e0 Q q
  refine hs H0 e0 _ fun us H1 e1 dus => ?_
  obtain ⟨u, u2, rfl, du, du2⟩ := dpa2 dus
  cases dp_int du
  cases dp_int du2
  refine ⟨lo, hi, rfl, ⟨by omega, by omega, by omega, by omega⟩, fun D hD => ?_⟩
  rw [show ((hi : Int) - (lo : Int)).toNat = hi - lo by omega]
  have hexD : ∀ {G : Hp} {o : HO}, Ex H1 G → Ex H1 (upd G D o) := fun {G o} e a u h => by rw [upd_ne (ne_of_none h hD)]; exact e a u h
  have lr := @lc_range (lo := (lo : Nat)) (n := hi - lo) (g := g) (tt := tt) (te := te) (vs := vs) (σ := σ) (H1 := H1) (D := D) (Qd := fun H' => Q (.ref D) H')
    (Pv := fun i H' => Ex H1 H' ∧ ∃ acc, H' D = some (.lst acc) ∧ DpAll K H' acc (((List.range i).filter f).map el) ∧ acc.length ≤ i) ⟨hexD (Ex.refl _), [], upd_same, .nil, Nat.le_refl _⟩
    (fun i H' hi ⟨e, acc, h1, h2, h3⟩ => by
      have he : ((lo : Nat) : Int) + (i : Int) = ((lo + i : Nat) : Int) := by omega
      rw [he]
      obtain ⟨σ2, hg, hw, hb, hel⟩ := ht i hi (.int (lo + i : Nat)) H' (e0.trans (e1.trans e)) (.int _)
      refine hg _ ⟨hw, hb H' (Ex.refl _) _ fun H3 e3 => ?_⟩
      cases hf : f i with
      | false =>
        rw [if_neg Bool.false_ne_true]
        refine ⟨e.trans e3, acc, e3 _ _ h1, ?_, by omega⟩
        rw [List.range_succ, List.filter_append, List.filter_cons_of_neg (by simp [hf]), List.filter_nil, List.append_nil]
        exact dpa_ex e3 h2
      | true =>
        rw [if_pos rfl]
        refine hel hf H3 e3 _ fun z H4 e4 dz => ⟨acc, (e3.trans e4) _ _ h1, Evl.sz_lt (by omega), hexD (e.trans (e3.trans e4)), acc ++ [z], upd_same, ?_, by simp; omega⟩
        have hD4 : H4 D = some (.lst acc) := (e3.trans e4) _ _ h1
        have bt : But D H4 (upd H4 D (.lst (acc ++ [z]))) := But.upd
        rw [List.range_succ, List.filter_append, List.filter_cons_of_pos (by simp [hf]), List.filter_nil, List.map_append]
        refine dpa_app (dpa_but bt hD4 (noLs_all fun d hd => ?_) (dpa_ex (e3.trans e4) h2)) (.cons (dp_but bt hD4 (hn i hi hf) dz) .nil)
        obtain ⟨u, hu, rfl⟩ := List.mem_map.mp hd
        have hu := List.mem_filter.mp hu
        exact hn u (by have := List.mem_range.mp hu.1; omega) (by simpa using hu.2))
    (fun H' ⟨e, acc, h1, h2, _⟩ => q _ _ (e1.trans e) (fresh_ex e1 hD) (dp_list_new h1 h2))
  exact lr
/-- [e for _ in range(n)], e drawn -/
theorem evn_lcR {ta : TA} {n i0 : Nat} {P : PyData → Prop} (hw : ∀ v, wipe ((wipe σ vs).set i0 (some v)) vs = wipe σ vs) (hs : ∀ H1, Bts [a, c] H H1 → EvDA K ta σ H1 [.int (n : Nat)]) (hz : n ≤ 100000) (hn : ∀ d, P d → noL d = true)
    (ht : ∀ i : Nat, i < n → EvN K a c te ((wipe σ vs).set i0 (some (.int (i : Nat)))) H P) : EvN K a c (tLc (iRng1 ta) (gName i0) tYes te vs) σ H (fun d => ∃ ds, d = .list ds ∧ ds.length = n ∧ ∀ x ∈ ds, P x) := by
  intro H0 b0 dl0 Q q
  refine hs H0 b0 H0 (Ex.refl _) _ fun us H1 e1 dus => ?_
  obtain ⟨u, rfl, du⟩ := dpa1 dus
  cases dp_int du
  refine ⟨n, rfl, by omega, by omega, fun D hD => ?_⟩
  have dl1 := dl0.mono e1
  have nD := dl1.nin hD
  have aD : a ∉ [D] := fun z => nD (by rw [List.mem_singleton.mp z]; simp)
  have cD : c ∉ [D] := fun z => nD (by rw [List.mem_singleton.mp z]; simp)
  have hexD : ∀ {G : Hp} {o : HO}, Bts [a, c] H1 G → Bts [a, c] H1 (upd G D o) := fun {G o} e x u hx h => by rw [upd_ne (ne_of_none h hD)]; exact e x u hx h
  have lr := @lc_range (lo := 0) (n := n) (g := gName i0) (tt := tYes) (te := te) (vs := vs) (σ := σ) (H1 := H1) (D := D) (Qd := fun H' => Q (.ref D) H')
    (Pv := fun i H' => Bts [a, c] H1 H' ∧ Deal H' a c ∧ ∃ acc ds, H' D = some (.lst acc) ∧ DpAll K H' acc ds ∧ ds.length = i ∧ ∀ x ∈ ds, P x) ⟨hexD Bts.refl, dl1.mono (Ex.new hD), [], [], upd_same, .nil, rfl, fun _ h => nomatch h⟩
    (fun i H' hi ⟨b, dl, acc, ds, h1, h2, h3, h4⟩ => by
      have he : (0 : Int) + (i : Int) = (i : Int) := by omega
      rw [he]
      refine ⟨hw _, et_yes H' (Ex.refl _) _ fun H3 e3 => ?_⟩
      rw [if_pos rfl]
      have b := b.ex e3
      have dl := dl.mono e3
      have h1 := e3 _ _ h1
      have h2 := dpa_ex e3 h2
      clear e3
      refine ht i hi H3 (b0.trans ((Bts.of e1).trans b)) dl _ fun z d H4 b4 dl4 pz dz => ?_
      have hD4 := b4 _ _ nD h1
      have hal := dpa_len h2
      have bt : But D H4 (upd H4 D (.lst (acc ++ [z]))) := But.upd
      have bt2 : Bts [D] H4 (upd H4 D (.lst (acc ++ [z]))) := Bts.upd (by simp)
      have nl : noLs ds = true := noLs_all fun x hx => hn x (h4 x hx)
      refine ⟨acc, hD4, Evl.sz_lt (by omega), hexD (b.trans b4), dl4.bts bt2 aD cD, acc ++ [z], ds ++ [d], upd_same, dpa_app (dpa_but bt hD4 nl (dpa_bts b4 dl.lsts nl h2)) (.cons (dp_but bt hD4 (hn d pz) dz) .nil), by rw [List.length_append, h3]; rfl, fun x hx => ?_⟩
      rcases List.mem_append.mp hx with z | z
      · exact h4 x z
      · rw [List.mem_singleton.mp z]; exact pz)
    (fun H' ⟨b, dl, acc, ds, h1, h2, h3, h4⟩ => q _ _ _ ((Bts.of e1).trans b) dl ⟨ds, rfl, h3, h4⟩ (dp_list_new h1 h2))
  exact lr
theorem evn_cb1 {r : List V → Hp → VK → Prop} {R G : PyData → Prop} (h : EvN K a c te σ H R) (hr : ∀ d, R d → ∃ f, G f ∧ ∀ H1, RCD K r H1 [d] f) : EvN K a c (tCB r (tCons te tNil)) σ H G := fun H1 b dl Q q =>
  h H1 b dl _ fun x d H2 b2 d2 rx dx => by
    obtain ⟨f, hf, k⟩ := hr d rx
    exact k H2 [x] H2 (Ex.refl _) (.cons dx .nil) Q fun v H3 e3 dv => q v f H3 (b2.ex e3) (d2.mono e3) hf dv
end
/-! all lists and tuples stay -/
def sq : HO → Bool
  | .lst _ => true
  | .tup _ => true
  | .frz _ (.lst _) => true
  | .frz _ (.tup _) => true
  | _ => false
def LEx (H H' : Hp) : Prop := ∀ b o, H b = some o → sq o = true → H' b = some o
section
variable {K : PySem.W.Frag} {H H1 H' : Hp} {a c p t : Addr} {xs : List V} {es : List PyData} {o o' : HO} {f g : List Nat} {S : List Addr}
theorem LEx.of (e : Ex H H') : LEx H H' := fun b o h _ => e b o h
theorem LEx.trans (e : LEx H H1) (f : LEx H1 H') : LEx H H' := fun b o h k => f b o (e b o h k) k
theorem LEx.upd (h : H a = some o) (ho : sq o = false) : LEx H (L2.upd H a o') := fun b u e k => by
  rw [upd_ne (fun z => ?_)]
  · exact e
  · rw [z, h] at e
    cases e
    rw [ho] at k
    cases k
theorem sqt_lex (e : LEx H H') (h : SqT K H a xs) : SqT K H' a xs := by
  rcases h with (h | ⟨o, h⟩) | h
  · exact .inl (.inl (e _ _ h rfl))
  · exact .inl (.inr ⟨o, e _ _ h rfl⟩)
  · exact .inr h
theorem sql_lex (e : LEx H H') (h : SqL K H a xs) : SqL K H' a xs := by
  rcases h with (h | ⟨o, h⟩) | h
  · exact .inl (.inl (e _ _ h rfl))
  · exact .inl (.inr ⟨o, e _ _ h rfl⟩)
  · exact .inr h
mutual
theorem dp_lex {K : PySem.W.Frag} {H H' : Hp} (e : LEx H H') : ∀ {d : PyData} {v : V}, Dp K H v d → Dp K H' v d
  | .none, _, .non => .non
  | .bool _, _, .bl b => .bl b
  | .int _, _, .int i => .int i
  | .str _, _, .str x => .str x
  | .list _, _, .lst h hs => .lst (sql_lex e h) (dpa_lex e hs)
  | .tuple _, _, .tup h hs => .tup (sqt_lex e h) (dpa_lex e hs)
theorem dpa_lex {K : PySem.W.Frag} {H H' : Hp} (e : LEx H H') : ∀ {ds : List PyData} {vs : List V}, DpAll K H vs ds → DpAll K H' vs ds
  | [], _, .nil => .nil
  | _ :: _, _, .cons h hs => .cons (dp_lex e h) (dpa_lex e hs)
end
theorem Own.lex (e : LEx H H') (h : Own K H p es) : Own K H' p es := by
  obtain ⟨acc, h1, h2⟩ := h.ex
  exact ⟨acc, e _ _ h1 rfl, dpa_lex e h2⟩
theorem Deal.lex (e : LEx H H') (h : Deal H a c) : Deal H' a c := by
  obtain ⟨xs, m, h1, h2, h3⟩ := h
  exact ⟨xs, m, e _ _ h1 rfl, e _ _ h2 rfl, h3⟩
theorem WkS.lex (e : LEx H H') (h : WkS S H t f g) : WkS S H' t f g := by
  obtain ⟨l, bs, back, h1, h2, h3, h4⟩ := h
  exact ⟨l, bs, back, h1, h2, e _ _ h3 rfl, e _ _ h4 rfl⟩
theorem fresh_bts (b : Bts S H H') (hp : p ∉ S) (n : H' p = none) : H p = none := by
  cases h : H p with
  | none => rfl
  | some o => rw [b p o hp h] at n; cases n
variable (K) in
theorem q_setF {te : TE} {σ : L2.St} {D : Ends} {tz : TS} {d : PyData} {i : Nat} (h : EvF K te σ H d) (k : ∀ l H1, Ex H H1 → H l = none → Dp K H1 (.ref l) d → tz D (σ.set i (some (.ref l))) H1) : tSeq (tAsg te (gName i)) tz D σ H := h H (Ex.refl H) _ k
end
/-- for i, j in d: d's table stands locked while it is walked -/
theorem q_forKeys {K : PySem.W.Frag} {σ : L2.St} {H : Hp} {i : Nat} {d : Addr} {kvs : List (TK × V)} {g : TG} {tu tz : TS} {D : Ends} (hv : σ[i]? = some (some (.ref d))) (hd : H d = some (.dT kvs))
    (k : ∀ od, ∃ Pv : Nat → L2.St → Hp → Prop, Pv 0 σ (upd H d (.frz od (.dT kvs))) ∧ (∀ i σ' H', Pv i σ' H' → H' d = some (.frz od (.dT kvs))) ∧
      (∀ i σ' H' (kk : TK) (v : V) (q : Addr), kvs[i]? = some (kk, v) → H' q = some (.tup (kk.map kV)) → Pv i σ' H' → g (.ref q) σ' H' fun σ2 H2 => tu { nx := Pv (i + 1), ct := Pv (i + 1), bk := fun σ' H' => H' d = some (.frz od (.dT kvs)) ∧ tz D σ' (upd H' d (.dT kvs)), rt := fun v H' => H' d = some (.frz od (.dT kvs)) ∧ D.rt v (upd H' d (.dT kvs)) } σ2 H2) ∧
      ∀ σ' H', Pv kvs.length σ' H' → tz D σ' (upd H' d (.dT kvs))) : tSeq (tLock (tFor (iKeys (tVar i)) g tu)) tz D σ H := by
  refine ⟨d, .dT kvs, hd, trivial, fun od => ?_⟩
  obtain ⟨Pv, h0, hl, ht, hz⟩ := k od
  refine ⟨_, hv, d, od, rfl, .inr ⟨kvs, upd_same, ?_⟩⟩
  refine ⟨fun i m σ' H' => m = kvs.length - i ∧ i ≤ kvs.length ∧ Pv i σ' H', ⟨kvs.length, by simp, Nat.zero_le _, h0⟩, ?_⟩
  rintro i m σ' H' ⟨rfl, hi, p⟩
  by_cases hlt : i < kvs.length
  · refine .inr ⟨⟨hl i _ _ p, hlt⟩, Pv (i + 1), fun σ2 H2 p' => ⟨_, by omega, rfl, hlt, p'⟩, fun x H2 yl => ?_⟩
    obtain ⟨rfl, kk, v, q, h1, rfl, h3⟩ := yl
    exact ht i _ _ kk v q h1 h3 p
  · have e : i = kvs.length := by omega
    subst e
    exact .inl ⟨⟨hl _ _ _ p, Nat.le_refl _⟩, hl _ _ _ p, hz _ _ p⟩
end Bw
end
section
set_option Elab.async false
set_option linter.all false
set_option maxRecDepth 100000
set_option maxHeartbeats 8000000
/-! changes drawn, accords that hold for them. -/
namespace Bw
open PySem PySem.Spec PyProof.Rows L2 Bfb
local macro_rules | `(tactic| walk_at "ex") => `(tactic| first
  | assumption
  | exact Ex.refl _
  | (refine Ex.trans ?_ (by assumption); walk_at "ex"))
local macro_rules | `(tactic| walk_at "om") => `(tactic| first | omega | assumption | (left; constructor <;> omega) | (right; constructor <;> omega) | decide)
local macro_rules | `(tactic| walk_at "ln") => `(tactic| first | decide | (simp only [List.length_cons, List.length_nil, List.length_append, List.length_map]; omega))
local macro_rules | `(tactic| walk_at "rd") => `(tactic| first
  | with_reducible exact rd_plus
  | with_reducible exact rd_sub
  | with_reducible exact rd_lt
  | with_reducible exact rd_le
  | with_reducible exact rd_gt
  | with_reducible exact rd_ge
  | with_reducible exact rd_eqI
  | with_reducible exact rd_neI
  | ((with_reducible apply rd_eqD); rfl; rfl)
  | ((with_reducible apply rd_neD); rfl; rfl)
  | ((with_reducible apply rd_mul); walk_at "om")
  | ((with_reducible apply rd_div); walk_at "om"; walk_at "om")
  | ((with_reducible apply rd_mod); walk_at "om")
  | ((with_reducible apply rd_divW); walk_at "om"; walk_at "om")
  | ((with_reducible apply rd_ixT); rfl)
  | ((with_reducible apply rd_ixL); rfl)
  | with_reducible exact rd_isNi
  | with_reducible exact rd_isNn
  | with_reducible exact rd_isNt
  | with_reducible exact rd_notNn)
local macro_rules | `(tactic| walk_at "ev") => `(tactic| first
  | with_reducible exact evd_int
  | ((with_reducible apply evd_varI); rfl)
  | ((with_reducible apply evd_varB); rfl)
  | ((with_reducible apply evd_var); rfl; assumption; walk_at "ex")
  | with_reducible exact evd_bl
  | with_reducible exact evd_non
  | with_reducible exact evd_str
  | ((with_reducible apply evd_op); walk_at "ev"; walk_at "ev"; walk_at "rd")
  | ((with_reducible apply evd_tup); walk_at "ea"; walk_at "ln")
  | ((with_reducible apply evd_lst); walk_at "ea"; walk_at "ln")
  | ((with_reducible apply evd_isInt); walk_at "ev")
  | ((with_reducible apply evd_isBool); walk_at "ev")
  | ((with_reducible apply evd_isTuple); walk_at "ev")
  | ((with_reducible apply evd_cb); walk_at "ea"; walk_at "rc")
  | with_reducible exact evd_neg1
  | ((with_reducible apply evd_notV); walk_at "ev")
  | ((with_reducible apply evd_call); walk_at "ea"; assumption))
local macro_rules | `(tactic| walk_at "ea") => `(tactic| first
  | with_reducible exact evda_nil
  | ((with_reducible apply evda_cons); walk_at "ev"; walk_at "ea")
  | ((with_reducible apply evda_starT); walk_at "ev"; walk_at "ea")
  | ((with_reducible apply evda_starL); walk_at "ev"; walk_at "ea"))
local macro_rules | `(tactic| walk_at "rc") => `(tactic| first
  | with_reducible exact rc_len
  | with_reducible exact rc_lenT
  | with_reducible exact rc_tupL
  | with_reducible exact rc_tupT
  | with_reducible exact rc_listL
  | with_reducible exact rc_listT
  | with_reducible exact rc_min2
  | with_reducible exact rc_max2
  | with_reducible exact rc_int1
  | with_reducible exact rc_abs
  | with_reducible exact rc_all
  | with_reducible exact rc_sum)
local macro_rules | `(tactic| walk_at "et") => `(tactic| first
  | ((with_reducible apply et_test (K := ‹PySem.W.Frag›)); walk_at "ev")
  | ((with_reducible apply et_B (K := ‹PySem.W.Frag›)); walk_at "ev")
  | ((with_reducible apply et_not); walk_at "et"))

variable {P : Program} {w : World} {K : PySem.W.Frag} {mg : Str → Option Value} {base : Heap}
abbrev s_law_true : Stmt := topS 56
abbrev N_law_true : List Str := ["_law_deal", "_law_many", "_law_state", "_law_body", "_law_changes", "_law_walks", "_law_found", "_law_i", "_law_j", "_law_count", "_law_fit"]
theorem sc_law_true : FnScope N_law_true ["_law_deal"] (defScope s_law_true) := ⟨rfl, rfl, rfl, by decide +kernel, rfl, by decide +kernel, by decide +kernel⟩
abbrev csc_law_true : Scope := { kind := .function, names := [(".0", .local), ("_law_body", .local), ("tuple", .globalImplicit), ("range", .globalImplicit), ("_law_deal", .cell), ("_law_many", .cell)], isGenerator := false, isCoroutine := false }
def TrueAs (Fn : Nat → List Nat) (as : List (Nat × Nat × Nat)) : Prop := ∀ x ∈ as, x.2.1 < x.1 ∧ x.1 < 3 ∧ x.2.2 ≤ 12 ∧ Agree (Fn x.2.1) (Fn x.1) x.2.2
def kvW (t01 t02 t12 : Addr) : List (TK × V) := [(kyN (0, 1), .ref t01), (kyN (0, 2), .ref t02), (kyN (1, 2), .ref t12)]
def spTrue (K : PySem.W.Frag) : Sp := fun vs H Q _ => ∃ (a c : Addr), vs = [.ref a] ∧ Deal H a c ∧ ∀ (n : Nat) (Fn : Nat → List Nat) (as : List (Nat × Nat × Nat)) (p d t01 t02 t12 t : Addr) H', n ≤ 3 → (∀ i, i < 3 → Chg n (Fn i)) → as.length ≤ 3 → TrueAs Fn as → Bts [a, c] H H' → H' t = some (.tup [.ref p, .ref d]) →
  Own K H' p (as.map accD) → H' d = some (.dT (kvW t01 t02 t12)) → WkS [] H' t01 (Fn 0) (Fn 1) → WkS [] H' t02 (Fn 0) (Fn 2) → WkS [] H' t12 (Fn 1) (Fn 2) → Q (.ref t) H'
theorem nums_of {n : Nat} : ∀ {ds : List PyData}, (∀ x ∈ ds, ∃ j : Nat, j < n ∧ x = .int (j : Nat)) → ∃ f : List Nat, ds = f.map numN ∧ ∀ x ∈ f, x < n
  | [], _ => ⟨[], rfl, fun _ h => nomatch h⟩
  | d :: ds, h => by
    obtain ⟨j, hj, rfl⟩ := h d List.mem_cons_self
    obtain ⟨f, rfl, hf⟩ := nums_of fun x hx => h x (List.mem_cons_of_mem _ hx)
    exact ⟨j :: f, rfl, fun x hx => (List.mem_cons.mp hx).elim (fun z => by rw [z]; exact hj) (hf x)⟩
theorem kvW_at {t01 t02 t12 : Addr} {i : Nat} {kk : TK} {v : V} (h : (kvW t01 t02 t12)[i]? = some (kk, v)) : ∃ (i1 j1 : Nat) (t : Addr), kk = kyN (i1, j1) ∧ i1 < j1 ∧ j1 < 3 ∧ valV (kvW t01 t02 t12) kk = some (.ref t) ∧ ((i1 = 0 ∧ j1 = 1 ∧ t = t01) ∨ (i1 = 0 ∧ j1 = 2 ∧ t = t02) ∨ (i1 = 1 ∧ j1 = 2 ∧ t = t12)) := by
  match i, h with
  | 0, h => cases h; exact ⟨0, 1, t01, rfl, by decide, by decide, rfl, .inl ⟨rfl, rfl, rfl⟩⟩
  | 1, h => cases h; exact ⟨0, 2, t02, rfl, by decide, by decide, rfl, .inr (.inl ⟨rfl, rfl, rfl⟩)⟩
  | 2, h => cases h; exact ⟨1, 2, t12, rfl, by decide, by decide, rfl, .inr (.inr ⟨rfl, rfl, rfl⟩)⟩
  | i + 3, h => simp [kvW] at h
theorem WkS.sub {S S' : List Addr} {H : Hp} {t : Addr} {f g : List Nat} (h : WkS S H t f g) (hS : ∀ x ∈ S', x ∈ S) : WkS S' H t f g := by
  obtain ⟨l, bs, back, h1, h2⟩ := h
  exact ⟨l, bs, back, fun z => h1 (hS l z), h2⟩
theorem d_law_true (F : Fd K mg "_law_true" s_law_true) (B : Nm mg) (D_law_any : Df P w K mg base "_law_any" 1 ["_law_deal", "_law_bound"] (spAny)) (D_law_pair_walks : Df P w K mg base "_law_pair_walks" 3 ["_law_changes"] (spPairs K)) (D_law_fits : Df P w K mg base "_law_fits" 1 ["_law_walk_here", "_law_count"] (spP K R_lfits)) (D_law_of : Df P w K mg base "_law_of" 2 ["_law_deal", "_law_some"] (spOf K)) : Df P w K mg base "_law_true" 4 ["_law_deal"] (spTrue K) := by
  refine d_any F sc_law_true (fun _ _ _ _ _ _ us hl => match us, hl with | [_], _ => rfl) (by rintro _ _ _ _ ⟨a, c, rfl, hd, k⟩; rfl) fun f cdv A outer s H vs Q E hr hR => ?_
  have hu64 := hr.units
  have hu65 := room65 hr
  have hu1 := room1 hr
  obtain ⟨a, c, rfl, hd, k⟩ := hR
  refine ⟨_, (pss_cons (ps_set (i := 1) sc_law_true.nd rfl (.inr rfl) (pe_op (op_plusK (K := K) rfl) pe_int (pe_df D_law_any (hr.mono (by decide)) (by rfl) (pa_cons (pv 0) (pa_cons pe_int pa_nil)))))
      (pss_cons (ps_setLc (i := 4) (own := [("_law_body", 3)]) rfl sc_law_true.nd rfl rfl (sw_true rfl rfl rfl (by decide +kernel)) (pi_range1 (by rfl) B.range (pa_cons pe_int pa_nil)) (blkOk_by (own := [("_law_body", 3)]) (N := N_law_true) (sc := defScope s_law_true) (by decide +kernel)) (fun _ _ _ _ _ => (pg_name (i := 3) sc_law_true.nd rfl (.inl rfl))) (fun _ _ _ _ _ => pts_nil) (fun _ _ _ _ _ => (pe_callTy (call_tupK (K := K) rfl) (by rfl) B.tuple (by decide +kernel) (pa_cons (pe_lc (own := [("_law_state", 2)]) rfl sc_law_true.nd (pi_range1 (by rfl) B.range (pa_cons (pv 1) pa_nil)) (blkOk_by (own := [("_law_state", 2)]) (N := N_law_true) (sc := csc_law_true) (by decide +kernel)) (fun _ _ _ _ _ => (pg_name (i := 2) sc_law_true.nd rfl (.inl rfl))) (fun _ _ _ _ _ => pts_nil) (fun _ _ _ _ _ => (pe_df D_law_any (hr.mono (by decide)) (by rfl) (pa_cons (pv 0) (pa_cons (pv 1) pa_nil))))) pa_nil))))
      (pss_cons (ps_asg (pe_tup (pa_cons (pe_df D_law_pair_walks (hr.mono (by decide)) (by rfl) (pa_cons (pv 4) pa_nil)) (pa_cons (pe_lst pa_nil) pa_nil))) (pg_tupK (K := K) (n := 2) rfl rfl (pgs_cons (pg_name (i := 5) sc_law_true.nd rfl (.inr rfl)) (pgs_cons (pg_name (i := 6) sc_law_true.nd rfl (.inl rfl)) pgs_nil))))
      (pss_cons (ps_lock (ps_for PassesOwn.never rfl (pi_keys (pv 5)) (pg_tupK (K := K) (n := 2) rfl rfl (pgs_cons (pg_name (i := 7) sc_law_true.nd rfl (.inr rfl)) (pgs_cons (pg_name (i := 8) sc_law_true.nd rfl (.inr rfl)) pgs_nil))) (pss_cons (ps_setLc (i := 10) (own := [("_law_count", 9)]) rfl sc_law_true.nd rfl rfl (sw_true rfl rfl rfl (by decide +kernel)) (pi_range2 (by rfl) B.range (pa_cons pe_int (pa_cons pe_int pa_nil))) (blkOk_by (own := [("_law_count", 9)]) (N := N_law_true) (sc := defScope s_law_true) (by decide +kernel)) (fun _ _ _ _ _ => (pg_name (i := 9) sc_law_true.nd rfl (.inl rfl))) (fun _ _ _ _ _ => pts_one (pt_val (pe_df D_law_fits (hr.mono (by decide)) (by rfl) (pa_cons (pe_dget hu1 (pv 5) (pe_tup (pa_cons (pv 7) (pa_cons (pv 8) pa_nil))) (fun _ _ => rfl)) (pa_cons (pv 9) pa_nil))))) (fun _ _ _ _ _ => (pv 9)))
      (pss_one (ps_if (pt_cmpR (op_neK (K := K) hu64 rfl) (pv 10) (pe_lst pa_nil) (nomark _)) (pss_one (ps_expr (pe_bm PySem.F.plainAttrs_list PySem.F.slot_list_append PySem.F.type_list_append mt_append (pv 6) (pa_cons (pe_tup (pa_cons (pv 8) (pa_cons (pv 7) (pa_cons (pe_df D_law_of (hr.mono (by decide)) (by rfl) (pa_cons (pv 0) (pa_cons (pv 10) pa_nil))) pa_nil)))) pa_nil)))) pss_nil)))))
      (pss_one (ps_ret (pe_tup (pa_cons (pv 6) (pa_cons (pv 5) pa_nil))))))))), ?_⟩
  try dsimp only [cxOf, Cx.nox, Cx.wish]
  refine q_setN K (R := fun d => ∃ n : Nat, 0 < n ∧ n ≤ 3 ∧ d = .int (n : Nat)) hd (evn_op (R := fun d => d = .int 1) (S := NatLe 2) (fun d e => by rw [e]; rfl) (evn_of fun H1 _ => evd_int) (evn_mono (evn_any (n := 3) rfl (by decide) (by decide) fun H1 _ => evd_int) fun d ⟨j, hj, e⟩ => ⟨j, by omega, e⟩) fun H1 d e r1 ⟨j, hj, r2⟩ => ⟨.int (1 + (j : Nat)), ⟨1 + j, by omega, by omega, by rw [Int.natCast_add]; rfl⟩, by rw [r1, r2]; exact rd_plus⟩) fun v d H1 b1 d1 r1 dv => ?_
  obtain ⟨n, n0, n3, rfl⟩ := r1
  cases dp_int dv
  refine q_setN K (R := fun d => ∃ ds, d = .list ds ∧ ds.length = 3 ∧ ∀ x ∈ ds, ∃ f, x = tupI f ∧ Chg n f) d1 (evn_lcR (n := 3) (P := fun x => ∃ f, x = tupI f ∧ Chg n f) (fun _ => rfl) (fun H1 _ => evda_cons evd_int evda_nil) (by decide) (fun d ⟨f, e, _⟩ => by rw [e]; exact noLsI f) fun i hi => ?_) fun v d H2 b2 d2 r2 dv => ?_
  · refine evn_cb1 (evn_lcR (n := n) (P := fun d => ∃ j : Nat, j < n ∧ d = .int (j : Nat)) (fun _ => rfl) (fun H1 _ => evda_cons (evd_varI rfl) evda_nil) (by omega) (fun d ⟨j, _, e⟩ => by rw [e]; rfl) fun j hj => evn_any rfl n0 (by omega) fun H1 _ => evd_varI rfl) fun d ⟨ds, e, hl, hp⟩ => ?_
    obtain ⟨f, rfl, hf⟩ := nums_of hp
    subst e
    exact ⟨tupI f, ⟨f, rfl, by rw [List.length_map] at hl; exact hl, hf⟩, fun H1 => rc_tupL⟩
  obtain ⟨ds, rfl, hl, hp⟩ := r2
  obtain ⟨Fn, hF, rfl⟩ : ∃ Fn : Nat → List Nat, (∀ i, i < 3 → Chg n (Fn i)) ∧ ds = [tupI (Fn 0), tupI (Fn 1), tupI (Fn 2)] := by
    match ds, hl, hp with
    | [x, y, z], _, hp =>
      obtain ⟨f0, rfl, h0⟩ := hp x (by simp)
      obtain ⟨f1, rfl, h1⟩ := hp y (by simp)
      obtain ⟨f2, rfl, h2⟩ := hp z (by simp)
      refine ⟨fun i => match i with | 0 => f0 | 1 => f1 | _ => f2, fun i hi => ?_, rfl⟩
      match i, hi with
      | 0, _ => exact h0
      | 1, _ => exact h1
      | 2, _ => exact h2
  clear hl hp
  refine q_asgT (t_tup2 (t_call1 (t_cons (t_v rfl (t_nil ⟨v, n, Fn 0, Fn 1, Fn 2, rfl, dv, n0, n3, hF 0 (by decide), hF 1 (by decide), hF 2 (by decide), fun d t01 t02 t12 H3 nd e3 hd3 w1 w2 w3 => t_lst (t_nil ⟨Nat.zero_le _, fun p np t nt => ?_⟩)⟩)))))
  refine ⟨t, [.ref d, .ref p], rfl, SqT.of upd_same, rfl, _, _, rfl, _, _, rfl, rfl, ?_⟩
  have e5 := e3.trans ((Ex.new (o := .lst []) np).trans (Ex.new (o := .tup [.ref d, .ref p]) nt))
  have b5 : Bts [a, c] H _ := (b1.trans b2).ex e5
  have d5 := d2.mono e5
  have hd5 := ((Ex.new (o := .lst []) np).trans (Ex.new (o := .tup [.ref d, .ref p]) nt)) _ _ hd3
  have hpp : H3 p = none := np
  have lx : LEx H3 (upd (upd H3 p (.lst [])) t (.tup [.ref d, .ref p])) := LEx.of ((Ex.new (o := .lst []) np).trans (Ex.new (o := .tup [.ref d, .ref p]) nt))
  have ww : ∀ {t' f g}, WkF H2 H3 t' f g → WkS [d, p, a, c] (upd (upd H3 p (.lst [])) t (.tup [.ref d, .ref p])) t' f g := fun {t' f g} h => by
    obtain ⟨l, bs, back, l1, l2, l3, l4⟩ := h
    refine ⟨l, bs, back, fun z => ?_, l2, lx _ _ l3 rfl, lx _ _ l4 rfl⟩
    rcases List.mem_cons.mp z with z | z
    · rw [z, hd3] at l4; cases l4
    · rcases List.mem_cons.mp z with z | z
      · rw [z, np] at l4; cases l4
      · exact d2.nin l1 z
  have w01 := ww w1
  have w02 := ww w2
  have w12 := ww w3
  have pnin : p ∉ [a, c] := (d2.mono e3).nin np
  have hp5 : upd (upd H3 p (.lst [])) t (.tup [.ref d, .ref p]) p = some (.lst []) := (Ex.new (o := .tup [.ref d, .ref p]) nt) _ _ upd_same
  have npH : H p = none := fresh_bts ((b1.trans b2).ex e3) pnin np
  generalize upd (upd H3 p (.lst [])) t (.tup [.ref d, .ref p]) = H5 at *
  clear ww lx e5 nt np w1 w2 w3 hd3
  have dnin : d ∉ [p, a, c] := fun z => by
    rcases List.mem_cons.mp z with z | z
    · rw [z, hp5] at hd5; cases hd5
    · rcases d5.lsts d z with ⟨ys, hy⟩ | ⟨ys, hy⟩
      · rw [hd5] at hy; cases hy
      · obtain ⟨xs, m, q1, q2, _⟩ := d5
        rcases List.mem_cons.mp z with z | z
        · rw [z, q1] at hd5; cases hd5
        · rw [List.mem_singleton.mp z, q2] at hd5; cases hd5
  have l5 : Lsts [d, p, a, c] H5 := fun x hx => by
    rcases List.mem_cons.mp hx with z | z
    · rw [z]; exact .inr ⟨_, hd5⟩
    · rcases List.mem_cons.mp z with z | z
      · rw [z]; exact .inl ⟨_, hp5⟩
      · exact d5.lsts x z
  show tSeq _ _ _ [some (.ref a), some (.int (n : Nat)), none, none, some v, some (.ref d), some (.ref p), none, none, none, none] H5
  refine q_forKeys (K := K) (i := 5) (kvs := kvW t01 t02 t12) rfl hd5 fun od => ⟨fun i σ' H' => ∃ (x7 x8 x10 : Option V) (as : List (Nat × Nat × Nat)), σ' = [some (.ref a), some (.int (n : Nat)), none, none, some v, some (.ref d), some (.ref p), x7, x8, none, x10] ∧ as.length ≤ i ∧ TrueAs Fn as ∧
      H' d = some (.frz od (.dT (kvW t01 t02 t12))) ∧ Bts [d, p, a, c] H5 H' ∧ Deal H' a c ∧ Own K H' p (as.map accD), ?_, fun i σ' H' ⟨_, _, _, _, _, _, _, h, _⟩ => h, ?_, ?_⟩
  · have lu : LEx H5 (upd H5 d (.frz od (.dT (kvW t01 t02 t12)))) := LEx.upd hd5 rfl
    exact ⟨none, none, none, [], rfl, Nat.le_refl _, fun _ h => (nomatch h), upd_same, Bts.upd (by simp), d5.lex lu, (Own.new hp5).lex lu⟩
  · rintro i σ' H' kk v' q hk hq ⟨x7, x8, x10, as, rfl, hl, ht, hf, hb, hdl, ho⟩
    have hi3 : i < 3 := (List.getElem?_eq_some_iff.mp hk).1
    obtain ⟨i1, j1, t', rfl, h1, h2, hv, hw⟩ := kvW_at hk
    have dq : Dp K H' (.ref q) (.tuple [.int (i1 : Nat), .int (j1 : Nat)]) := .tup (SqT.of hq) (.cons (.int _) (.cons (.int _) .nil))
    refine g_two dq fun y z dy dz => ?_
    cases dp_int dy
    cases dp_int dz
    have wk : WkS [d, p, a, c] H' t' (Fn i1) (Fn j1) := by
      rcases hw with ⟨rfl, rfl, rfl⟩ | ⟨rfl, rfl, rfl⟩ | ⟨rfl, rfl, rfl⟩
      · exact w01.bts hb l5
      · exact w02.bts hb l5
      · exact w12.bts hb l5
    obtain ⟨bs, back, ok, wdp⟩ := wk.dp (K := K)
    have hget : ∀ {x9 x10 : Option V} {H2 : Hp}, Ex H' H2 → EvD K (tDGet (tVar 5) (tTup (tCons (tVar 7) (tCons (tVar 8) tNil)))) [some (.ref a), some (.int (n : Nat)), none, none, some v, some (.ref d), some (.ref p), some (.int (i1 : Nat)), some (.int (j1 : Nat)), x9, x10] H2 (.tuple [.list (bs.map .bool), .int (back : Nat)]) := fun {x9 x10 H2} e G g Q k => by
      refine ⟨_, rfl, t_tup (t_cons (t_v rfl (t_cons (t_v rfl (t_nil ⟨by show 2 ≤ sizeLine; decide, fun b nb => ?_⟩)))))⟩
      have eb := Ex.new (o := .tup [.int (i1 : Nat), .int (j1 : Nat)]) nb
      exact ⟨d, .ref t', rfl, .inr ⟨kvW t01 t02 t12, kyN (i1, j1), b, .inr ⟨od, eb _ _ (g _ _ (e _ _ hf))⟩, rfl, upd_same, hv.symm⟩, k _ _ eb (dp_ex ((e.trans g).trans eb) wdp)⟩
    generalize hL : ((List.range (13 - 1)).filter fun x => decide (Agree (Fn i1) (Fn j1) (1 + x))).map (fun x => ((1 + x : Nat) : Int)) = L
    have hLm : ∀ m ∈ L, ∃ j : Nat, m = (j : Int) ∧ j ≤ 12 ∧ Agree (Fn i1) (Fn j1) j := fun m hm => by
      rw [← hL] at hm
      obtain ⟨x, hx, rfl⟩ := List.mem_map.mp hm
      have hx := List.mem_filter.mp hx
      have := List.mem_range.mp hx.1
      exact ⟨1 + x, rfl, by omega, of_decide_eq_true hx.2⟩
    have hLl : L.length ≤ 12 := by
      rw [← hL, List.length_map]
      have := List.length_filter_le (fun x => decide (Agree (Fn i1) (Fn j1) (1 + x))) (List.range (13 - 1))
      rw [List.length_range] at this
      omega
    refine q_setF K (d := .list (L.map .int)) (evf_is (evf_lcR2 (lo := 1) (hi := 13) (fun x => decide (Agree (Fn i1) (Fn j1) (1 + x))) (fun x => .int ((1 + x : Nat) : Int)) (evda_cons evd_int (evda_cons evd_int evda_nil)) (by decide) (by decide) (fun _ _ _ => rfl) fun x hx => ?_) (by rw [← hL, List.map_map]; rfl)) fun l H6 e6 nl dl => ?_
    · refine lct_name (fun v => rfl) fun v H1 e dv => ?_
      cases dp_int dv
      exact ⟨et_B (K := K) (evd_call (ds := [.tuple [.list (bs.map .bool), .int (back : Nat)], .int ((1 + x : Nat) : Int)]) (evda_cons (hget e) (evda_cons (evd_varI rfl) evda_nil)) ⟨n, Fn i1, Fn j1, bs, back, 1 + x, hF i1 (by omega), hF j1 h2, ok, rfl, rfl⟩), fun _ => evd_varI rfl⟩
    have hdl6 := hdl.mono e6
    have lnin : l ∉ [a, c] := hdl.nin nl
    refine s_when (b := !decide (L = [])) (et_test (K := K) (evd_is (evd_op (evd_var (i := 10) rfl dl (Ex.refl _)) (evd_lst (ds := []) evda_nil (by decide)) (rd_neD (shaped_intsL L) rfl)) (by rw [eqv_nilI]))) (fun hne H7 e7 => ?_) (fun hno H7 e7 => ?_)
    · have hne : L ≠ [] := by simpa using hne
      have dl7 := dp_ex e7 dl
      have hdl7 := hdl6.mono e7
      have noL' : noLs (L.map PyData.int) = true := noLs_all fun x hx => by
        obtain ⟨m, _, rfl⟩ := List.mem_map.mp hx
        rfl
      refine s_appN K (R := fun x => ∃ m : Nat, x = accD (j1, i1, m) ∧ m ≤ 12 ∧ Agree (Fn i1) (Fn j1) m) hdl7 (ho.mono (e6.trans e7)) pnin rfl (noAcc as) (fun d ⟨m, e, _⟩ => by rw [e]; rfl) (by rw [List.length_map]; omega)
        (evn_mono (evn_tup (evna_cons (R := fun d => d = .int (j1 : Nat)) (fun d e => by rw [e]; rfl) (evn_of fun H1 _ => evd_varI rfl) (evna_cons (R := fun d => d = .int (i1 : Nat)) (fun d e => by rw [e]; rfl) (evn_of fun H1 _ => evd_varI rfl)
          (evna_cons (R := fun d => d ∈ L.map PyData.int) (fun d hd => by obtain ⟨m, _, rfl⟩ := List.mem_map.mp hd; rfl) (evn_ofV (j := 10) rfl rfl dl7 lnin hdl7.lsts (by rw [List.length_map]; exact List.length_pos_iff.mpr hne) (by rw [List.length_map]; omega) noL') evna_nil)))
          fun ds ⟨d1, es1, g1, _, d2, es2, g2, _, d3, es3, g3, _, g4⟩ => by rw [g1, g2, g3, g4]; simp)
          fun x ⟨ds, e0, d1, es1, g1, q1, d2, es2, g2, q2, d3, es3, g3, q3, g4⟩ => by
            obtain ⟨m, hm, rfl⟩ := List.mem_map.mp q3
            obtain ⟨j, rfl, r1, r2⟩ := hLm m hm
            exact ⟨j, by rw [e0, g1, g2, g3, g4, q1, q2]; rfl, r1, r2⟩) fun x H8 r8 b8 d8 o8 => ?_
      obtain ⟨m, rfl, m1, m2⟩ := r8
      have e67 := e6.trans e7
      refine ⟨some (.int (i1 : Nat)), some (.int (j1 : Nat)), some (.ref l), as ++ [(j1, i1, m)], rfl, by rw [List.length_append]; simp only [List.length_cons, List.length_nil]; omega, fun x hx => ?_, b8 _ _ dnin (e67 _ _ hf), (hb.ex e67).trans (b8.mono fun x hx => List.mem_cons_of_mem _ hx), d8, by rw [List.map_append]; exact o8⟩
      rcases List.mem_append.mp hx with z | z
      · exact ht x z
      · rw [List.mem_singleton.mp z]
        exact ⟨h1, h2, m1, m2⟩
    · have e67 := e6.trans e7
      exact ⟨some (.int (i1 : Nat)), some (.int (j1 : Nat)), some (.ref l), as, rfl, by omega, ht, e67 _ _ hf, hb.ex e67, hdl.mono e67, ho.mono e67⟩
  · rintro σ' H' ⟨x7, x8, x10, as, rfl, hl, ht, hf, hb, hdl, ho⟩
    refine s_retT (t_tup2 (t_v rfl (t_v rfl fun t' nt' => ?_)))
    have lu : LEx H' (upd H' d (.dT (kvW t01 t02 t12))) := LEx.upd hf rfl
    have lv : LEx (upd H' d (.dT (kvW t01 t02 t12))) (upd (upd H' d (.dT (kvW t01 t02 t12))) t' (.tup [.ref p, .ref d])) := LEx.of (Ex.new nt')
    have bf : Bts [p, a, c] H5 (upd H' d (.dT (kvW t01 t02 t12))) := fun x o hx e => by
      by_cases z : x = d
      · rw [z, hd5] at e
        rw [z, upd_same, ← Option.some.inj e]
        rfl
      · rw [upd_ne z]
        exact hb x o (fun y => (List.mem_cons.mp y).elim z hx) e
    refine k n Fn as p d t01 t02 t12 t' _ n3 hF hl ht (bts_new b5 (bf.ex (Ex.new nt')) npH) upd_same ((ho.lex lu).lex lv) ((Ex.new nt') _ _ upd_same) (((w01.bts hb l5).lex lu).lex lv |>.sub (by simp)) (((w02.bts hb l5).lex lu).lex lv |>.sub (by simp)) (((w12.bts hb l5).lex lu).lex lv |>.sub (by simp))
end Bw
end
section
set_option Elab.async false
set_option linter.all false
set_option maxRecDepth 100000
set_option maxHeartbeats 4000000
/-! what `law` needs of the accords and of the rows. -/
namespace Bw
open PySem PySem.Spec PyProof.Rows L2 Bfb
theorem told_mem {as : List (Nat × Nat × Nat)} {i j c : Nat} : c ∈ told as i j ↔ ∃ x ∈ as, ((x.1 = i ∧ x.2.1 = j) ∨ (x.1 = j ∧ x.2.1 = i)) ∧ x.2.2 = c := by
  unfold told
  rw [List.mem_map]
  constructor
  · rintro ⟨x, hx, e⟩
    have := List.mem_filter.mp hx
    exact ⟨x, this.1, of_decide_eq_true this.2, e⟩
  · rintro ⟨x, hx, h, e⟩
    exact ⟨x, List.mem_filter.mpr ⟨hx, decide_eq_true h⟩, e⟩
theorem x0_rev (as : List (Nat × Nat × Nat)) : x0 as.reverse = x0 as := by
  have h : ∀ i j, clRow (told as.reverse i j) = clRow (told as i j) := fun i j => clRow_mem fun c => by
    rw [told_mem, told_mem]
    simp
  unfold x0 start3
  rw [h, h, h]
theorem finB_rev (b : Nat) (as : List (Nat × Nat × Nat)) : finB b as.reverse = finB b as := by
  unfold finB
  rw [x0_rev]
theorem HandPre.rev {b : Nat} {as : List (Nat × Nat × Nat)} (h : HandPre b as) : HandPre b as.reverse :=
  ⟨h.b1, h.b3, by rw [List.length_reverse]; exact h.len, fun a ha => h.good a (List.mem_reverse.mp ha), fun i j hij c hc => h.low i j hij c (by
    rw [told_mem] at hc ⊢
    obtain ⟨x, hx, q⟩ := hc
    exact ⟨x, List.mem_reverse.mp hx, q⟩)⟩
/-- the drawn accords and what is put behind them -/
theorem pre_more {b : Nat} {as more : List (Nat × Nat × Nat)} (b1 : 0 < b) (b3 : b ≤ 3) (hl : as.length ≤ 5) (ha : AccB b as) (hm : ∃ n, more = ([(0, b - 1, 0), (0, 0, 60)] : List (Nat × Nat × Nat)).take n) : HandPre b (as ++ more) := by
  obtain ⟨n, rfl⟩ := hm
  have mem : ∀ x ∈ ([(0, b - 1, 0), (0, 0, 60)] : List (Nat × Nat × Nat)).take n, x = (0, b - 1, 0) ∨ x = (0, 0, 60) := fun x hx => by
    have := List.mem_of_mem_take hx
    simpa using this
  refine ⟨b1, b3, ?_, fun x hx => ?_, fun i j hij c hc => ?_⟩
  · rw [List.length_append, List.length_take]
    have : ([(0, b - 1, 0), (0, 0, 60)] : List (Nat × Nat × Nat)).length = 2 := rfl
    omega
  · rcases List.mem_append.mp hx with z | z
    · have := ha x z
      exact ⟨this.1, this.2.1, by omega⟩
    · rcases mem x z with rfl | rfl
      · exact ⟨b1, by show b - 1 < b; omega, by show 0 ≤ 60; decide⟩
      · exact ⟨b1, b1, by show 60 ≤ 60; decide⟩
  · rw [told_mem] at hc
    obtain ⟨x, hx, h, e⟩ := hc
    rcases List.mem_append.mp hx with z | z
    · have := (ha x z).2.2
      omega
    · rcases mem x z with rfl | rfl
      · have e : 0 = c := e
        omega
      · have h : (0 = i ∧ 0 = j) ∨ (0 = j ∧ 0 = i) := h
        omega
theorem hand_ok {b : Nat} {as : List (Nat × Nat × Nat)} (hp : HandPre b as) : ∀ k ∈ pairsOf b, Ok (atR (finB b as) k) := fun k hk => by
  have all := turns_all (told as 0 1) (told as 0 2) (told as 1 2) (hp.low 0 1 (by decide)) (hp.low 0 2 (by decide)) (hp.low 1 2 (by decide))
  have : finB b as = stR (x0 as) 14 ∨ finB b as = stR (x0 as) 0 := by
    unfold finB stB
    by_cases e : b = 3
    · rw [if_pos e]; exact .inl rfl
    · rw [if_neg e]; exact .inr rfl
  rcases this with e | e
  · rw [e]
    obtain ⟨t', p, h⟩ := par_at (x0 as) 14 (pairs_in hp.b1 hp.b3 k hk) 0
    have h : atR (stR (x0 as) 14) k = _ := h
    rw [h]
    exact (all.1 t' p).ok
  · rw [e]
    obtain ⟨t', p, h⟩ := par_at (x0 as) 0 (pairs_in hp.b1 hp.b3 k hk) 0
    have h : atR (stR (x0 as) 0) k = _ := h
    rw [h]
    exact (all.1 t' p).ok
theorem hand_shown {b : Nat} {as : List (Nat × Nat × Nat)} (hp : HandPre b as) : (handD b (finB b as)).showable = true ∧ noL (handD b (finB b as)) = true ∧ (handD b (finB b as)).shown.length ≤ sizeLine ∧ (handD b (finB b as)).depth ≤ 64 := hand_shows hp.b1 hp.b3 (hand_ok hp)
/-- accords that hold for changes -/
theorem pre_true {Fn : Nat → List Nat} {as : List (Nat × Nat × Nat)} (hl : as.length ≤ 3) (ht : TrueAs Fn as) : HandPre 3 as :=
  ⟨by decide, by decide, by omega, fun x hx => by have := ht x hx; exact ⟨this.2.1, by omega, by omega⟩, fun i j hij c hc => by
    rw [told_mem] at hc
    obtain ⟨x, hx, h, e⟩ := hc
    have := ht x hx
    omega⟩
theorem told_agree {Fn : Nat → List Nat} {as : List (Nat × Nat × Nat)} (ht : TrueAs Fn as) {i j c : Nat} (hij : i < j) (hc : c ∈ told as i j) : Agree (Fn i) (Fn j) c := by
  rw [told_mem] at hc
  obtain ⟨x, hx, h, e⟩ := hc
  obtain ⟨h1, h2, h3, h4⟩ := ht x hx
  rcases h with ⟨e1, e2⟩ | ⟨e1, e2⟩
  · omega
  · rw [e1, e2, e] at h4
    exact h4
/-- the rows that are handed on tell only counts at which the changes agree -/
theorem rows_agree {n : Nat} {Fn : Nat → List Nat} {as : List (Nat × Nat × Nat)} (hF : ∀ i, i < 3 → Chg n (Fn i)) (ht : TrueAs Fn as) {k : Nat × Nat} (hk : k ∈ pairsOf 3) {c : Nat} (hc : InR (atR (finB 3 as) k) c) : Agree (Fn k.1) (Fn k.2) c := by
  have T := turns_of (told as 0 1) (told as 0 2) (told as 1 2)
  have L := lst_agree (hF 0 (by decide)) (hF 1 (by decide)) (hF 2 (by decide)) (fun c hc => told_agree ht (i := 0) (j := 1) (by decide) hc) (fun c hc => told_agree ht (i := 0) (j := 2) (by decide) hc) (fun c hc => told_agree ht (i := 1) (j := 2) (by decide) hc)
  have e : finB 3 as = stR (x0 as) 14 := by unfold finB stB; rw [if_pos rfl]
  rw [e] at hc
  rcases pairs_in (by decide) (by decide) k hk with rfl | rfl | rfl
  · exact L 0 c (T.below 14 0 c hc)
  · exact L 1 c (T.below 14 1 c hc)
  · exact L 2 c (T.below 14 2 c hc)
theorem inL_few {R : Bfb.Row} (h : Ok R) : (runsL R.1 0).length + (tailL (far R.1) R.2 40).length ≤ 95000 := by
  have h1 := nsteps_far h.v
  have h2 := h.far
  have h3 : (tailL (far R.1) R.2 40).length ≤ 1000 := by
    unfold tailL
    split
    · split <;> simp
    · rename_i he
      rw [List.length_map, List.length_range]
      have := Nat.div_le_of_le_mul (m := 40 - far R.1 + (R.2 - 1)) (k := R.2) (n := 1000) (by
        have : 1 ≤ R.2 := by omega
        have h4 : R.2 * 1000 ≥ R.2 + 999 := by omega
        omega)
      exact this
  rw [runsL_len]
  omega
end Bw
end
section
set_option Elab.async false
set_option linter.all false
set_option maxRecDepth 100000
set_option maxHeartbeats 8000000
/-! _law_at, handed a lambda that raises. -/
namespace Bw
open PySem PySem.Spec PyProof.Rows L2 Bfb LamX
local macro_rules | `(tactic| walk_at "ex") => `(tactic| first
  | assumption
  | exact Ex.refl _
  | (refine Ex.trans ?_ (by assumption); walk_at "ex"))
local macro_rules | `(tactic| walk_at "om") => `(tactic| first | omega | assumption | (left; constructor <;> omega) | (right; constructor <;> omega) | decide)
local macro_rules | `(tactic| walk_at "ln") => `(tactic| first | decide | (simp only [List.length_cons, List.length_nil, List.length_append, List.length_map]; omega))
local macro_rules | `(tactic| walk_at "rd") => `(tactic| first
  | with_reducible exact rd_plus
  | with_reducible exact rd_sub
  | with_reducible exact rd_lt
  | with_reducible exact rd_le
  | with_reducible exact rd_gt
  | with_reducible exact rd_ge
  | with_reducible exact rd_eqI
  | with_reducible exact rd_neI
  | ((with_reducible apply rd_eqD); rfl; rfl)
  | ((with_reducible apply rd_neD); rfl; rfl)
  | ((with_reducible apply rd_mul); walk_at "om")
  | ((with_reducible apply rd_div); walk_at "om"; walk_at "om")
  | ((with_reducible apply rd_mod); walk_at "om")
  | ((with_reducible apply rd_divW); walk_at "om"; walk_at "om")
  | ((with_reducible apply rd_ixT); rfl)
  | ((with_reducible apply rd_ixL); rfl)
  | with_reducible exact rd_isNi
  | with_reducible exact rd_isNn
  | with_reducible exact rd_isNt
  | with_reducible exact rd_notNn)
local macro_rules | `(tactic| walk_at "ev") => `(tactic| first
  | with_reducible exact evd_int
  | ((with_reducible apply evd_varI); rfl)
  | ((with_reducible apply evd_varB); rfl)
  | ((with_reducible apply evd_var); rfl; assumption; walk_at "ex")
  | with_reducible exact evd_bl
  | with_reducible exact evd_non
  | with_reducible exact evd_str
  | ((with_reducible apply evd_op); walk_at "ev"; walk_at "ev"; walk_at "rd")
  | ((with_reducible apply evd_tup); walk_at "ea"; walk_at "ln")
  | ((with_reducible apply evd_lst); walk_at "ea"; walk_at "ln")
  | ((with_reducible apply evd_isInt); walk_at "ev")
  | ((with_reducible apply evd_isBool); walk_at "ev")
  | ((with_reducible apply evd_isTuple); walk_at "ev")
  | ((with_reducible apply evd_cb); walk_at "ea"; walk_at "rc")
  | with_reducible exact evd_neg1
  | ((with_reducible apply evd_notV); walk_at "ev")
  | ((with_reducible apply evd_call); walk_at "ea"; assumption))
local macro_rules | `(tactic| walk_at "ea") => `(tactic| first
  | with_reducible exact evda_nil
  | ((with_reducible apply evda_cons); walk_at "ev"; walk_at "ea")
  | ((with_reducible apply evda_starT); walk_at "ev"; walk_at "ea")
  | ((with_reducible apply evda_starL); walk_at "ev"; walk_at "ea"))
local macro_rules | `(tactic| walk_at "rc") => `(tactic| first
  | with_reducible exact rc_len
  | with_reducible exact rc_lenT
  | with_reducible exact rc_tupL
  | with_reducible exact rc_tupT
  | with_reducible exact rc_listL
  | with_reducible exact rc_listT
  | with_reducible exact rc_min2
  | with_reducible exact rc_max2
  | with_reducible exact rc_int1
  | with_reducible exact rc_abs
  | with_reducible exact rc_all
  | with_reducible exact rc_sum)
local macro_rules | `(tactic| walk_at "et") => `(tactic| first
  | ((with_reducible apply et_test (K := ‹PySem.W.Frag›)); walk_at "ev")
  | ((with_reducible apply et_B (K := ‹PySem.W.Frag›)); walk_at "ev")
  | ((with_reducible apply et_not); walk_at "et"))

abbrev s_law_at : Stmt := topS 45
abbrev N_law_at : List Str := ["_law_work", "wrong", "late"]
theorem sc_law_at : FnScope N_law_at ["_law_work"] (defScope s_law_at) := ⟨rfl, rfl, rfl, by decide +kernel, rfl, by decide +kernel, by decide +kernel⟩
/-- what _law_at makes of what it calls: that raises InvalidQuestion(1) -/
def TAt (C : Addr) : (XK → Hp → VK → Prop) → Hp → VK → Prop := fun tl H Q =>
  tl (fun cls d H' => cls = .ref C ∧ ∃ dd, d = some dd ∧ H' dd = some (xdAt (.int 1)) ∧ ∀ p, H' p = none → Q (.ref p) (upd H' p (.tup [.str "question", .int 1]))) H fun _ _ => False
theorem cr_never {X : Cx} {f : Value} : CallR X f fun _ _ _ => False := fun _ _ _ _ _ _ _ _ _ h => h.elim
theorem at_gives {X : Cx} {C fI cda cc CR g : Addr} {cdg : Value} {q : Str} (T : IqTxt X.prog X.K X.mg C fI cda cc) (hR : X.mg "InvalidRow" = some (.ref CR)) (hrep : X.mg "repr" = none) (m1 : PySem.W.exmOne X.K (.ref C) (.ref CR) = some false) (m2 : PySem.W.exmOne X.K (.ref C) (.ref C) = some true) :
    GivesTo X N_law_at "_law_at" (defScope s_law_at) g cdg (defBody s_law_at) "_law_work" q (TAt C) := by
  intro f c' s H Q tl act hc h
  refine ⟨_, pss_one (ps_try_two (X := (cxOf C8.CX0 X.prog X.w X.K X.mg X.base N_law_at "_law_at" (defScope s_law_at) g cdg X.A X.stack s H C8.E0).nox) (i := 2) (c1 := .ref CR) (c2 := .ref C)
      (tb := fun W D σ H => ∃ Ech : XK, (∀ cls d σ' H', Ech cls d H' → W cls d σ' H') ∧ σ[0]? = some (some (.ref f)) ∧ H c' = some (CodeO c' q) ∧ tl Ech H fun _ _ => False)
      rfl rfl sc_law_at.nd rfl rfl ⟨rfl, rfl, .inl hR⟩ ⟨rfl, rfl, .inl T.gC⟩ (fun W pn xe tk _ => ?_) (fun a oe cls d pn hz hf => pss_one (ps_ret (pe_tup (pa_cons pe_str (pa_cons (pe_atIq T hz hf (pv 2)) pa_nil)))))), ?_⟩
  · refine ⟨fun pins s' σ H' D I h' => ?_⟩
    obtain ⟨Ech, hW, h1, h2, h3⟩ := h'
    have hp := act W pn xe Ech ⟨208, 29, 208, 38⟩ ⟨208, 29, 208, 40⟩ tk hW
    have h1a := pa_cons hp pa_nil
    have h2a := pe_callB (p := ⟨208, 24, 208, 28⟩) (pos := ⟨208, 24, 208, 41⟩) (X := (cxOf C8.CX0 X.prog X.w X.K X.mg X.base N_law_at "_law_at" (defScope s_law_at) g cdg X.A X.stack s H C8.E0).tr pn xe) (x := "repr") (id := "repr") cr_never (by rfl) hrep (by decide +kernel) h1a
    have h3a := pe_tup (x1 := 0) (pos := ⟨208, 15, 208, 42⟩) (pa_cons (pe_str (x := "told") (j := 0) (pos := ⟨208, 16, 208, 22⟩)) (pa_cons h2a pa_nil))
    have hq := pss_one (ps_ret (pos := ⟨208, 8, 208, 42⟩) h3a)
    exact hq.run pins s' σ H' D I ⟨h1, h2, h3⟩
  · refine ⟨fun cls d H' => cls = .ref C ∧ ∃ dd, d = some dd ∧ H' dd = some (xdAt (.int 1)) ∧ ∀ p, H' p = none → Q (.ref p) (upd H' p (.tup [.str "question", .int 1])), fun cls d σ' H' hx => ?_, rfl, hc, h⟩
    obtain ⟨rfl, dd, rfl, hd, q⟩ := hx
    refine ⟨m1, m2, fun a na hl => ?_⟩
    refine t_tup2 ?_
    exact ⟨.ref a, by simp [hl], rfl, rfl, dd, _, rfl, hd, q⟩
end Bw
end
section
set_option Elab.async false
set_option linter.all false
set_option maxRecDepth 100000
set_option maxHeartbeats 4000000
/-! _law_at(lambda: ..) in `law`; `law`'s own promise. -/
namespace Bw
open PySem PySem.Spec PyProof.Rows L2 Bfb LamX
section
variable {X : Cx} {C fI cda cc CR c P : Addr} {params : Arguments} {body : Expr} {scope : Scope} {t : XK → TE} {p lpos pos : Pos}
theorem pe_atLam (hg : Gl X "_law_at") (FA : Fd X.K X.mg "_law_at" s_law_at) (Tq : IqTxt X.prog X.K X.mg C fI cda cc) (hR : X.mg "InvalidRow" = some (.ref CR)) (hrep : X.mg "repr" = none) (m1 : PySem.W.exmOne X.K (.ref C) (.ref CR) = some false) (m2 : PySem.W.exmOne X.K (.ref C) (.ref C) = some true)
    (TB : TabB X.base X.mg c P) (hcode : X.env.code = .ref c) (hr : Room (8 + 2) X.A) (L : LamS X.env.scope scope) (hdef : defaultsOf params X.env = ([], []))
    (hbind : ∀ (q : Str) (cl : List (Str × Addr)) (pm cv ctv : Value), bindArgs (PySem.W.kla_fn "<lambda>" q params body scope cl pm cv ctv) ⟨[], []⟩ = pure [])
    (hbody : ∀ (A : Around) (outer : List Env) (s : Shared) (H : Hp) (E : XK) (f c' : Addr), Room 8 (A.deeper (lamEnv X scope s.heap.objs.size f c')) → PE (lamCx X A outer s H E scope f c') body (t E)) :
    PE X (.Call (.Name "_law_at" p) [.Lambda params body scope lpos] [] pos) (tLam [(P, X.env.qual ++ "<lambda>")] (TAt C) t) := by
  obtain ⟨g, fd, Fn, hm⟩ := FA.ex
  have hb := Fn.binds (ps := ["_law_work"]) (fun _ _ _ _ _ _ us hl => match us, hl with | [_], _ => rfl)
  obtain ⟨oc, od, kV, doc, pm, an, cdv, ct, osl, rfl, lk, hcd⟩ := Fn.ex
  exact pe_lamcall (Ng := N_law_at) (a := "_law_work") hg hm Fn.kp lk hcd hb sc_law_at rfl (.inl rfl) (at_gives Tq hR hrep m1 m2) TB hcode (List.mem_singleton_self _) (fun q hq _ => by rw [List.mem_singleton.mp hq]) hr L hdef hbind hbody
end
section
variable {P : Program} {w : World} {K : PySem.W.Frag} {mg : Str → Option Value} {base : Heap} {x : Str} {st : Stmt} {N ps : List Str} {k : Nat} {f : Addr} {oc kV doc pm cdv ct : Value} {an od : Option Addr} {osl : Array (Option Value)}
theorem fn_Gx {sp : Sp} (lk : K.lookup f = some ⟨oc, od, .func (PySem.W.fnOf x x (defArgs st) (defBody st) (defScope st) .none kV doc pm an cdv ct), osl⟩) (hcd : PySem.W.codeIn K cdv x = true) (S : FnScope N ps (defScope st)) (len : ∀ vs H Q E, sp vs H Q E → vs.length = ps.length)
    (body : ∀ (A : Around) (outer : List Env) (s : Shared) (H : Hp) (vs : List V) (Q : VK) (E : XK), (A.deeper (envOfC x (defScope st) s.heap.objs.size f cdv)).guards = some [] → Room k (A.deeper (envOfC x (defScope st) s.heap.objs.size f cdv)) → sp vs H Q E →
      ∃ t, PSs (cxOf CX0 P w K mg base N x (defScope st) f cdv A outer s H E).nox (defBody st) t ∧ t { nx := fun _ H' => Q .non H', rt := Q } (start N vs) H) : FnG P w K mg base (k + 1) f (PySem.W.fnOf x x (defArgs st) (defBody st) (defScope st) .none kV doc pm an cdv ct) ps sp := by
  refine ⟨len, fun A outer s H args us vs Q E hgd hr e0 hb r hsp => ?_⟩
  refine LamX.run_ofS (N := N) (ps := ps) lk hcd S hr e0 hb r (len _ _ _ _ hsp) fun hr' => ?_
  obtain ⟨t, ht, hq⟩ := body A outer s H vs Q E hgd hr' hsp
  exact ⟨t, ht.nox, hq⟩
end
end Bw
end
section
set_option Elab.async false
set_option linter.all false
set_option maxRecDepth 100000
set_option maxHeartbeats 4000000
/-! rules for `law`. -/
namespace Bw
open PySem PySem.Spec PyProof.Rows L2 Bfb LamX
section
variable {K : PySem.W.Frag} {σ : L2.St} {H H1 H' : Hp} {a c : Addr} {te ta tb th : TE} {t u : TT} {tu tz : TS} {D : Ends} {d e f : PyData} {ds : List PyData} {i : Nat} {Q : VK} {g : TG}
/-- some of a list that is made for it -/
theorem evn_slN {m : Nat} {tl : TA} {r' : V → Option Int → Option Int → Hp → VK → Prop} (h : ∀ H1, Bts [a, c] H H1 → EvDA K tl σ H1 ds) (hl : ds.length ≤ 1000) (hn : noLs ds = true) (hh : EvN K a c th σ H (NatLe m)) :
    EvN K a c (tSl (fun x lo hi H Q => rSlL K x lo hi H Q ∨ r' x lo hi H Q) (tLst tl) tNoPart (tPart th)) σ H (fun d => ∃ n, d = .list (ds.take n)) := fun H1 b dl Q q =>
  h H1 b H1 (Ex.refl _) _ fun vs H2 e2 dvs => ⟨by rw [dpa_len dvs]; exact Evl.sz_of (by omega), fun l nl => by
    have dl2 := (dl.mono e2).mono (Ex.new (o := .lst vs) nl)
    have bb := b.ex (e2.trans (Ex.new (o := .lst vs) nl))
    refine hh _ bb dl2 _ fun x dx H3 b3 d3 rx hx => ?_
    obtain ⟨j, hj, rfl⟩ := rx
    refine ⟨(j : Nat), dp_int hx, .inl ⟨l, vs, rfl, SqL.of (b3 _ _ ((dl.mono e2).nin nl) upd_same), fun p np => q _ _ _ (((Bts.of (e2.trans (Ex.new nl))).trans b3).ex (Ex.new np)) (d3.mono (Ex.new np)) ⟨HT.sIx ds.length ds.length (some (j : Nat)), rfl⟩ ?_⟩⟩
    have := dpa_cut (dpa_bts b3 dl2.lsts hn (dpa_ex (Ex.new (o := .lst vs) nl) dvs)) none (some (j : Nat))
    have e : cutD ds none (some (j : Nat)) = ds.take (HT.sIx ds.length ds.length (some (j : Nat))) := by
      unfold cutD
      rw [show HT.sIx ds.length 0 none = 0 from rfl, List.drop_zero, Nat.sub_zero]
    rw [e] at this
    exact .lst (SqL.of upd_same) (dpa_ex (Ex.new np) this)⟩
variable (K) in
theorem q_ifN (dl : Deal H a c) (h : EvN K a c te σ H (fun d => ∃ b, d = .bool b)) (k : ∀ b H1, Bts [a, c] H H1 → Deal H1 a c → (if b = true then ta else tb) σ H1 (fun v H2 => tz D (σ.set i (some v)) H2)) : tSeq (tAsg (tIf (tTest te) ta tb) (gName i)) tz D σ H :=
  h H Bts.refl dl _ fun v d H1 b1 d1 r1 dv => by
    obtain ⟨b, rfl⟩ := r1
    refine ⟨b, dp_bl dv, ?_⟩
    have := k b H1 b1 d1
    cases b with
    | true => exact this
    | false => exact this
theorem evd_handK {R : List PyData → PyData → Prop} (h : EvDA K (tCons ta (tCons tb tNil)) σ H [d, e]) (hR : R [e, d] f) : EvD K (tCallK (spP K R) swapG E0 tNil (tCons ta (tCons tb tNil))) σ H f := fun H1 g Q q =>
  show (tCons ta (tCons tb tNil)) σ H1 fun zs H2 => (spP K R) (swapG [] zs) H2 Q E0 from h H1 g _ fun vs H2 g2 dvs => by
    obtain ⟨v, w, rfl, h1, h2⟩ := dpa2 dvs
    exact ⟨[e, d], f, .cons h2 (.cons h1 .nil), hR, fun v H3 g3 dv => q v H3 (g2.trans g3) dv⟩
theorem evd_revL (h : EvD K te σ H (.list ds)) : EvD K (tRevL K te) σ H (.list ds.reverse) := fun H1 g Q q =>
  h H1 g _ fun v H2 g2 dv => by
    obtain ⟨p, xs, rfl, h1, h2⟩ := dp_lst dv
    exact ⟨p, xs, rfl, h1, fun l nl => q _ _ (g2.trans (Ex.new nl)) (.lst (SqL.of upd_same) (dpa_ex (Ex.new nl) (dpa_rev h2)))⟩
def KKo (tu tz : TS) (D : Ends) (σ : L2.St) : Bool → Hp → Prop := fun b H1 => if b = true then tu { D with nx := tz D } σ H1 else tz D σ H1
theorem q_noOr (h : t σ H fun b H1 => if b = true then KKo tu tz D σ true H1 else u σ H1 (KKo tu tz D σ)) : tSeq (tIfS (tOr t u) tu tNext) tz D σ H := h
theorem noOr_end (hu : Evl.EvT u σ H1 false) (k : ∀ H2, Ex H1 H2 → tz D σ H2) : (if false = true then KKo tu tz D σ true H1 else u σ H1 (KKo tu tz D σ)) := by
  rw [if_neg Bool.false_ne_true]
  exact hu H1 (Ex.refl _) _ fun H2 e2 => by
    show (if false = true then _ else tz D σ H2)
    rw [if_neg Bool.false_ne_true]
    exact k H2 e2
theorem t_test {Q : Bool → Hp → Prop} (h : te σ H fun v H1 => ∃ b, v = .bl b ∧ Q b H1) : tTest te σ H Q := h
end
end Bw
end
section
set_option Elab.async false
set_option linter.all false
set_option maxRecDepth 100000
set_option maxHeartbeats 8000000
/-! `law`. -/
namespace Bw
open PySem PySem.Spec PyProof.Rows L2 Bfb LamX
local macro_rules | `(tactic| walk_at "ex") => `(tactic| first
  | assumption
  | exact Ex.refl _
  | (refine Ex.trans ?_ (by assumption); walk_at "ex"))
local macro_rules | `(tactic| walk_at "om") => `(tactic| first | omega | assumption | (left; constructor <;> omega) | (right; constructor <;> omega) | decide)
local macro_rules | `(tactic| walk_at "ln") => `(tactic| first | decide | (simp only [List.length_cons, List.length_nil, List.length_append, List.length_map]; omega))
local macro_rules | `(tactic| walk_at "rd") => `(tactic| first
  | with_reducible exact rd_plus
  | with_reducible exact rd_sub
  | with_reducible exact rd_lt
  | with_reducible exact rd_le
  | with_reducible exact rd_gt
  | with_reducible exact rd_ge
  | with_reducible exact rd_eqI
  | with_reducible exact rd_neI
  | ((with_reducible apply rd_eqD); rfl; rfl)
  | ((with_reducible apply rd_neD); rfl; rfl)
  | ((with_reducible apply rd_mul); walk_at "om")
  | ((with_reducible apply rd_div); walk_at "om"; walk_at "om")
  | ((with_reducible apply rd_mod); walk_at "om")
  | ((with_reducible apply rd_divW); walk_at "om"; walk_at "om")
  | ((with_reducible apply rd_ixT); rfl)
  | ((with_reducible apply rd_ixL); rfl)
  | with_reducible exact rd_isNi
  | with_reducible exact rd_isNn
  | with_reducible exact rd_isNt
  | with_reducible exact rd_notNn)
local macro_rules | `(tactic| walk_at "ev") => `(tactic| first
  | with_reducible exact evd_int
  | ((with_reducible apply evd_varI); rfl)
  | ((with_reducible apply evd_varB); rfl)
  | ((with_reducible apply evd_var); rfl; assumption; walk_at "ex")
  | with_reducible exact evd_bl
  | with_reducible exact evd_non
  | with_reducible exact evd_str
  | ((with_reducible apply evd_op); walk_at "ev"; walk_at "ev"; walk_at "rd")
  | ((with_reducible apply evd_tup); walk_at "ea"; walk_at "ln")
  | ((with_reducible apply evd_lst); walk_at "ea"; walk_at "ln")
  | ((with_reducible apply evd_isInt); walk_at "ev")
  | ((with_reducible apply evd_isBool); walk_at "ev")
  | ((with_reducible apply evd_isTuple); walk_at "ev")
  | ((with_reducible apply evd_cb); walk_at "ea"; walk_at "rc")
  | with_reducible exact evd_neg1
  | ((with_reducible apply evd_notV); walk_at "ev")
  | ((with_reducible apply evd_call); walk_at "ea"; assumption))
local macro_rules | `(tactic| walk_at "ea") => `(tactic| first
  | with_reducible exact evda_nil
  | ((with_reducible apply evda_cons); walk_at "ev"; walk_at "ea")
  | ((with_reducible apply evda_starT); walk_at "ev"; walk_at "ea")
  | ((with_reducible apply evda_starL); walk_at "ev"; walk_at "ea"))
local macro_rules | `(tactic| walk_at "rc") => `(tactic| first
  | with_reducible exact rc_len
  | with_reducible exact rc_lenT
  | with_reducible exact rc_tupL
  | with_reducible exact rc_tupT
  | with_reducible exact rc_listL
  | with_reducible exact rc_listT
  | with_reducible exact rc_min2
  | with_reducible exact rc_max2
  | with_reducible exact rc_int1
  | with_reducible exact rc_abs
  | with_reducible exact rc_all
  | with_reducible exact rc_sum)
local macro_rules | `(tactic| walk_at "et") => `(tactic| first
  | ((with_reducible apply et_test (K := ‹PySem.W.Frag›)); walk_at "ev")
  | ((with_reducible apply et_B (K := ‹PySem.W.Frag›)); walk_at "ev")
  | ((with_reducible apply et_not); walk_at "et"))

variable {P : Program} {w : World} {K : PySem.W.Frag} {mg : Str → Option Value} {base : Heap}
abbrev s_law : Stmt := topS 57
abbrev N_law : List Str := ["_law_script", "_law_deal", "_law_turn", "_law_bodies", "_law_accords_here", "_law_sent", "_law_due", "_law_bad", "_law_some", "_law_walks", "_law_own", "_law_i", "_law_j", "_law_falling", "_law_count"]
theorem sc_law : FnScope N_law ["_law_script"] (defScope s_law) := ⟨rfl, rfl, rfl, by decide +kernel, rfl, by decide +kernel, by decide +kernel⟩
def spLaw (K : PySem.W.Frag) (Pt : Addr) : Sp := fun vs H Q _ => ∃ (q : Addr) (ns : List Int), vs = [.ref q] ∧ SqL K H q (ns.map V.int) ∧ ns.length ≤ 63 ∧ H Pt = some (.tbl #[]) ∧ ∀ H', Q (.bl true) H'
variable {C fI cda cc CR c Pt f : Addr} {oc kV doc pm ct : Value} {an od : Option Addr} {osl : Array (Option Value)}
theorem g_law (B : Nm mg) (lk : K.lookup f = some ⟨oc, od, .func (PySem.W.fnOf "law" "law" (defArgs s_law) (defBody s_law) (defScope s_law) .none kV doc pm an (.ref c) ct), osl⟩) (hcd : PySem.W.codeIn K (.ref c) "law" = true) (TB : TabB base mg c Pt)
    (F_law_at : Fd K mg "_law_at" s_law_at) (Tq : IqTxt P K mg C fI cda cc) (hR : mg "InvalidRow" = some (.ref CR)) (m1 : PySem.W.exmOne K (.ref C) (.ref CR) = some false) (m2 : PySem.W.exmOne K (.ref C) (.ref C) = some true)
    (X_handed_on : DfX P w K mg base "handed_on" 8 ["bodies", "accords"] (spBad K C)) (DF_handed_on : DfF P w K mg base "handed_on" s_handed_on 8 ["bodies", "accords"] (spP K R_handed))
    (D_law_draw : Df P w K mg base "_law_draw" 1 ["_law_script", "_law_salt"] (spDraw K)) (D_law_any : Df P w K mg base "_law_any" 1 ["_law_deal", "_law_bound"] (spAny)) (D_law_of : Df P w K mg base "_law_of" 2 ["_law_deal", "_law_some"] (spOf K)) (D_law_accords : Df P w K mg base "_law_accords" 3 ["_law_deal", "_law_bodies", "_law_most"] (spAccords K)) (D_law_bad_accords : Df P w K mg base "_law_bad_accords" 3 ["_law_deal", "_law_bodies", "_law_accords_here"] (spBadA K)) (D_law_handed : DfG P w K mg base "_law_handed" 3 ["_law_bodies", "_law_accords_here"] (spP K R_lhanded)) (D_law_true : Df P w K mg base "_law_true" 4 ["_law_deal"] (spTrue K)) (D_law_in : Df P w K mg base "_law_in" 1 ["_law_falling", "_law_bound"] (spP K R_lin)) (D_law_fits : Df P w K mg base "_law_fits" 1 ["_law_walk_here", "_law_count"] (spP K R_lfits)) : FnG P w K mg base 11 f (PySem.W.fnOf "law" "law" (defArgs s_law) (defBody s_law) (defScope s_law) .none kV doc pm an (.ref c) ct) ["_law_script"] (spLaw K Pt) := by
  refine fn_Gx lk hcd sc_law (by rintro _ _ _ _ ⟨q, ns, rfl, _⟩; rfl) fun A outer s H vs Q E hgd hr h => ?_
  have hu64 := hr.units
  have hu65 := room65 hr
  have hu66 := room66 hr
  have hu1 := room1 hr
  have D_handed_on := DF_handed_on.df
  obtain ⟨q, ns, rfl, hq, hl, hP, k⟩ := h
  refine ⟨_, (pss_cons (ps_set (i := 1) sc_law.nd rfl (.inl rfl) (pe_df D_law_draw (hr.mono (by decide)) (by rfl) (pa_cons (pv 0) (pa_cons pe_int pa_nil))))
      (pss_cons (ps_for PassesOwn.never rfl (pi_range1 (by rfl) B.range (pa_cons pe_int pa_nil)) (pg_name (i := 2) sc_law.nd rfl (.inl rfl)) (pss_cons (ps_set (i := 3) sc_law.nd rfl (.inr rfl) (pe_df D_law_of (hr.mono (by decide)) (by rfl) (pa_cons (pv 1) (pa_cons (pe_lst (pa_cons pe_int (pa_cons pe_int (pa_cons pe_int (pa_cons pe_int (pa_cons pe_int pa_nil)))))) pa_nil))))
      (pss_cons (ps_set (i := 4) sc_law.nd rfl (.inl rfl) (pe_df D_law_accords (hr.mono (by decide)) (by rfl) (pa_cons (pv 1) (pa_cons (pv 3) (pa_cons (pe_df D_law_of (hr.mono (by decide)) (by rfl) (pa_cons (pv 1) (pa_cons (pe_lst (pa_cons pe_int (pa_cons pe_int (pa_cons pe_int (pa_cons pe_int pa_nil))))) pa_nil))) pa_nil)))))
      (pss_cons (ps_set (i := 4) sc_law.nd rfl (.inl rfl) (pe_op (op_plusK (K := K) rfl) (pv 4) (pe_slice (sl_K (K := K) rfl) (pe_lst (pa_cons (pe_tup (pa_cons pe_int (pa_cons (pe_op op_sub (pv 3) pe_int) (pa_cons pe_int pa_nil)))) (pa_cons (pe_tup (pa_cons pe_int (pa_cons pe_int (pa_cons pe_int pa_nil)))) pa_nil))) po_none (po_some (pe_df D_law_any (hr.mono (by decide)) (by rfl) (pa_cons (pv 1) (pa_cons pe_int pa_nil)))))))
      (pss_cons (ps_set (i := 5) sc_law.nd rfl (.inl rfl) (pe_ifExp (pt_cmpR (op_eqK (K := K) hu64 rfl) (pe_df D_law_any (hr.mono (by decide)) (by rfl) (pa_cons (pv 1) (pa_cons pe_int pa_nil))) pe_int (nomark _)) (pv 4) (pe_callTy call_tuple_of (by rfl) B.tuple (by decide +kernel) (pa_cons (pv 4) pa_nil))))
      (pss_cons (ps_set (i := 6) sc_law.nd rfl (.inl rfl) (pe_callB (cr_repr (K := K) rfl hgd hu66) (by rfl) B.repr (by decide +kernel) (pa_cons (pe_dfG D_law_handed hgd (hr.mono (by decide)) (by rfl) (pa_cons (pv 3) (pa_cons (pv 4) pa_nil))) pa_nil)))
      (pss_one (ps_if (PW.pt (pw_or (pt_cmpR op_ne (pe_callB (cr_repr (K := K) rfl hgd hu66) (by rfl) B.repr (by decide +kernel) (pa_cons (pe_handK DF_handed_on (hr.mono (by decide)) (by rfl) (pk_cons (pv 5) (pk_cons (pv 3) pk_nil))) pa_nil)) (pv 6) (nomark _)) (pw_or1 (pt_cmpR op_ne (pe_callB (cr_repr (K := K) rfl hgd hu66) (by rfl) B.repr (by decide +kernel) (pa_cons (pe_df D_handed_on (hr.mono (by decide)) (by rfl) (pa_cons (pv 3) (pa_cons (pe_revL (pv 4)) pa_nil))) pa_nil)) (pv 6) (nomark _))))) (pss_one (ps_ret pe_bl)) pss_nil))))))))
      (pss_cons (ps_set (i := 7) sc_law.nd rfl (.inr rfl) (pe_df D_law_bad_accords (hr.mono (by decide)) (by rfl) (pa_cons (pv 1) (pa_cons (pv 3) (pa_cons (pv 4) pa_nil)))))
      (pss_cons (ps_if (PW.pt (pw_or (pt_cmpR (op_neK (K := K) hu64 rfl) (pe_atLam (by rfl) F_law_at Tq hR B.repr m1 m2 TB rfl (hr.mono (by decide)) (lamS_by (sc := defScope s_law) (by decide +kernel)) rfl (fun _ _ _ _ _ => by rfl) (fun A outer s H E f c' hr2 => pe_dfX X_handed_on hr2 (by rfl) (takes_of rfl rfl rfl rfl) (fun _ _ _ _ z => z) (pa_cons (pv 3) (pa_cons (pv 7) pa_nil)))) (pe_tup (pa_cons pe_str (pa_cons pe_int pa_nil))) (nomark _)) (pw_or1 (pt_cmpR op_ne (pe_callB (cr_repr (K := K) rfl hgd hu66) (by rfl) B.repr (by decide +kernel) (pa_cons (pe_df D_handed_on (hr.mono (by decide)) (by rfl) (pa_cons (pv 3) (pa_cons (pv 4) pa_nil))) pa_nil)) (pv 6) (nomark _))))) (pss_one (ps_ret pe_bl)) pss_nil)
      (pss_cons (ps_asg (pe_df D_law_true (hr.mono (by decide)) (by rfl) (pa_cons (pv 1) pa_nil)) (pg_tupK (K := K) (n := 2) rfl rfl (pgs_cons (pg_name (i := 8) sc_law.nd rfl (.inl rfl)) (pgs_cons (pg_name (i := 9) sc_law.nd rfl (.inr rfl)) pgs_nil))))
      (pss_cons (ps_set (i := 10) sc_law.nd rfl (.inl rfl) (pe_dfG D_law_handed hgd (hr.mono (by decide)) (by rfl) (pa_cons pe_int (pa_cons (pv 8) pa_nil))))
      (pss_cons (ps_if (pt_cmpR op_ne (pe_callB (cr_repr (K := K) rfl hgd hu66) (by rfl) B.repr (by decide +kernel) (pa_cons (pe_df D_handed_on (hr.mono (by decide)) (by rfl) (pa_cons pe_int (pa_cons (pv 8) pa_nil))) pa_nil)) (pe_callB (cr_repr (K := K) rfl hgd hu66) (by rfl) B.repr (by decide +kernel) (pa_cons (pv 10) pa_nil)) (nomark _)) (pss_one (ps_ret pe_bl)) pss_nil)
      (pss_cons (ps_for PassesOwn.never rfl (pi_seqK (K := K) rfl (pv 10)) (pg_tupK (K := K) (n := 3) rfl rfl (pgs_cons (pg_name (i := 11) sc_law.nd rfl (.inr rfl)) (pgs_cons (pg_name (i := 12) sc_law.nd rfl (.inr rfl)) (pgs_cons (pg_name (i := 13) sc_law.nd rfl (.inl rfl)) pgs_nil)))) (pss_one (ps_if (pt_cmpR (op_neK (K := K) hu64 rfl) (pe_lc (own := [("_law_count", 14)]) rfl sc_law.nd (pi_seqK (K := K) rfl (pe_df D_law_in (hr.mono (by decide)) (by rfl) (pa_cons (pv 13) (pa_cons pe_int pa_nil)))) (blkOk_by (own := [("_law_count", 14)]) (N := N_law) (sc := defScope s_law) (by decide +kernel)) (fun _ _ _ _ _ => (pg_name (i := 14) sc_law.nd rfl (.inl rfl))) (fun _ _ _ _ _ => pts_one (pt_not (pt_val (pe_df D_law_fits (hr.mono (by decide)) (by rfl) (pa_cons (pe_dget hu1 (pv 9) (pe_tup (pa_cons (pv 11) (pa_cons (pv 12) pa_nil))) (fun _ _ => rfl)) (pa_cons (pv 14) pa_nil)))))) (fun _ _ _ _ _ => (pv 14))) (pe_lst pa_nil) (nomark _)) (pss_one (ps_ret pe_bl)) pss_nil)))
      (pss_one (ps_ret pe_bl)))))))))), ?_⟩
  try dsimp only [cxOf, Cx.nox, Cx.wish]
  refine q_asgT (t_call1 (t_cons (t_v rfl (t_cons (t_c (t_nil ⟨q, ns, rfl, hq, hl, fun a c0 H1 na nc e1 d1 => ?_⟩))))))
  show tSeq _ _ _ [some (.ref q), some (.ref a), none, none, none, none, none, none, none, none, none, none, none, none, none] H1
  have hP1 := e1 _ _ hP
  have pnin : Pt ∉ [a, c0] := fun z => by rcases d1.lsts Pt z with ⟨ys, hy⟩ | ⟨ys, hy⟩ <;> rw [hP1] at hy <;> cases hy
  refine q_forR K (n := 2) (evda_cons evd_int evda_nil) (by decide) fun H2 e2 => ⟨fun i σ' H' => ∃ (x2 x3 x4 x5 x6 : Option V), σ' = [some (.ref q), some (.ref a), x2, x3, x4, x5, x6, none, none, none, none, none, none, none, none] ∧ Bts [a, c0] H1 H' ∧ Deal H' a c0 ∧
    (0 < i → ∃ (b : Nat) (as : List (Nat × Nat × Nat)) (p : Addr), x3 = some (.int (b : Nat)) ∧ x4 = some (.ref p) ∧ x6 = some (.str (handD b (finB b as)).shown) ∧ HandPre b as ∧ as.length ≤ 7 ∧ p ∉ [a, c0] ∧ Dp K H' (.ref p) (.list (as.map accD))),
    ⟨none, none, none, none, none, rfl, Bts.of e2, d1.mono e2, fun h => absurd h (Nat.lt_irrefl _)⟩, ?_, ?_⟩
  · rintro i σ' H' hi ⟨x2, x3, x4, x5, x6, rfl, bb, dl, _⟩
    show tSeq _ _ _ [some (.ref q), some (.ref a), some (.int (i : Nat)), x3, x4, x5, x6, none, none, none, none, none, none, none, none] H'
    have cB : ∀ {σ : L2.St} {H : Hp} (j : Nat), 0 < j → j ≤ 3 → EvN K a c0 (tC (.int (j : Nat))) σ H (fun d => ∃ b : Nat, 0 < b ∧ b ≤ 3 ∧ d = .int (b : Nat)) := fun j h1 h2 => evn_ofP (fun _ _ => evd_int) ⟨j, h1, h2, rfl⟩
    have nB : ∀ d : PyData, (∃ b : Nat, 0 < b ∧ b ≤ 3 ∧ d = .int (b : Nat)) → noL d = true := fun d ⟨b, _, _, e⟩ => by rw [e]; rfl
    refine q_setN K (R := fun d => ∃ b : Nat, 0 < b ∧ b ≤ 3 ∧ d = .int (b : Nat)) dl (evn_mono (evn_ofL rfl (evna_consP nB (cB 3 (by decide) (by decide)) (evna_consP nB (cB 3 (by decide) (by decide)) (evna_consP nB (cB 3 (by decide) (by decide)) (evna_consP nB (cB 2 (by decide) (by decide)) (evna_consP nB (cB 1 (by decide) (by decide)) evna_nilP)))))
      fun ds ⟨h1, h2⟩ => ⟨by omega, by omega, noLs_all fun d hd => nB d (h2 d hd)⟩) fun d ⟨ds, hds, hm⟩ => hds.2 d hm) fun v d H3 b3 d3 r3 dv => ?_
    obtain ⟨b, b0, bm, rfl⟩ := r3
    cases dp_int dv
    show tSeq _ _ _ [some (.ref q), some (.ref a), some (.int (i : Nat)), some (.int (b : Nat)), x4, x5, x6, none, none, none, none, none, none, none, none] H3
    have cM : ∀ {σ : L2.St} {H : Hp} (j : Nat), 0 < j → j ≤ 25 → EvN K a c0 (tC (.int (j : Nat))) σ H (fun d => ∃ b : Nat, 0 < b ∧ b ≤ 25 ∧ d = .int (b : Nat)) := fun j h1 h2 => evn_ofP (fun _ _ => evd_int) ⟨j, h1, h2, rfl⟩
    have nM : ∀ d : PyData, (∃ b : Nat, 0 < b ∧ b ≤ 25 ∧ d = .int (b : Nat)) → noL d = true := fun d ⟨b, _, _, e⟩ => by rw [e]; rfl
    have hmost : EvN K a c0 (tCall (spOf K) [] E0 (tCons (tVar 1) (tCons (tLst (tCons (tC (V.int 13)) (tCons (tC (V.int 13)) (tCons (tC (V.int 13)) (tCons (tC (V.int 25)) tNil))))) tNil))) [some (.ref q), some (.ref a), some (.int (i : Nat)), some (.int (b : Nat)), x4, x5, x6, none, none, none, none, none, none, none, none] H3
        (fun d => ∃ b : Nat, 0 < b ∧ b ≤ 25 ∧ d = .int (b : Nat)) := evn_mono (evn_ofL rfl (evna_consP nM (cM 13 (by decide) (by decide)) (evna_consP nM (cM 13 (by decide) (by decide)) (evna_consP nM (cM 13 (by decide) (by decide)) (evna_consP nM (cM 25 (by decide) (by decide)) evna_nilP))))
      fun ds ⟨h1, h2⟩ => ⟨by omega, by omega, noLs_all fun d hd => nM d (h2 d hd)⟩) fun d ⟨ds, hds, hm⟩ => hds.2 d hm
    refine q_asgT (t_call1 (t_cons (t_v rfl (t_cons (t_v rfl (t_cons (hmost H3 Bts.refl d3 _ fun x d H4 b4 d4 r4 dx => t_nil ?_)))))))
    obtain ⟨m, m0, mm, rfl⟩ := r4
    cases dp_int dx
    refine ⟨a, c0, b, m, rfl, b0, bm, m0, mm, d4, fun p as H5 hal hA np b5 d5 o5 => ?_⟩
    show tSeq _ _ _ [some (.ref q), some (.ref a), some (.int (i : Nat)), some (.int (b : Nat)), some (.ref p), x5, x6, none, none, none, none, none, none, none, none] H5
    have pnin5 : p ∉ [a, c0] := d4.nin np
    -- more accords behind
    refine q_asgT (t_op (t_v rfl ?_))
    have hsl : EvN K a c0 (tSl (fun x lo hi H Q => rSlL K x lo hi H Q ∨ rSlA K x lo hi H Q) (tLst (tCons (tTup (tCons (tC (V.int 0)) (tCons (tOp (rI0 fun i j => V.int (i - j)) (tVar 3) (tC (V.int 1))) (tCons (tC (V.int 0)) tNil)))) (tCons (tTup (tCons (tC (V.int 0)) (tCons (tC (V.int 0)) (tCons (tC (V.int 60)) tNil)))) tNil)))
        tNoPart (tPart (tCall spAny [] E0 (tCons (tVar 1) (tCons (tC (V.int 3)) tNil))))) [some (.ref q), some (.ref a), some (.int (i : Nat)), some (.int (b : Nat)), some (.ref p), x5, x6, none, none, none, none, none, none, none, none] H5
        (fun d => ∃ n, d = .list (([accD (0, b - 1, 0), accD (0, 0, 60)] : List PyData).take n)) :=
      evn_slN (m := 2) (fun H1 _ => evda_cons (evd_is (evd_tup (evda_cons evd_int (evda_cons (evd_op (evd_varI rfl) evd_int rd_sub) (evda_cons evd_int evda_nil))) (by show 3 ≤ 100000; decide)) (by show PyData.tuple _ = PyData.tuple _; rw [show (b : Int) - 1 = ((b - 1 : Nat) : Int) by omega]; rfl)) (evda_cons (show EvD K _ _ _ (.tuple [.int 0, .int 0, .int 60]) from by walk_at "ev") evda_nil)) (by show 2 ≤ 1000; decide) rfl
        (evn_mono (evn_any (n := 3) rfl (by decide) (by decide) fun H1 _ => evd_int) fun d ⟨j, hj, e⟩ => ⟨j, by omega, e⟩)
    refine hsl H5 Bts.refl d5 _ fun y d H6 b6 d6 r6 dy => ?_
    obtain ⟨nt, rfl⟩ := r6
    obtain ⟨yp, ys, rfl, ys1, ys2⟩ := dp_lst dy
    obtain ⟨pp, ps, pe, ps1, ps2⟩ := dp_lst (dpl_bts b6 d5.lsts (noAcc as) o5.dp pnin5)
    cases pe
    have hmore : ([accD (0, b - 1, 0), accD (0, 0, 60)] : List PyData).take nt = ((([(0, b - 1, 0), (0, 0, 60)] : List (Nat × Nat × Nat)).take nt)).map accD := by rw [List.map_take]; rfl
    have hpl := dpa_len ps2
    have hyl := dpa_len ys2
    rw [List.length_map] at hpl
    have hyl2 : ys.length ≤ 2 := by rw [hyl, List.length_take]; show min nt 2 ≤ 2; omega
    refine .inr (.inl ⟨p, yp, ps, ys, rfl, rfl, ps1, ys1, by rw [sizeLine_eq]; omega, fun r nr => ?_⟩)
    have hp := pre_more b0 bm hal hA ⟨nt, rfl⟩
    generalize hmr : ([(0, b - 1, 0), (0, 0, 60)] : List (Nat × Nat × Nat)).take nt = more at hp hmore
    have hml : more.length ≤ 2 := by rw [← hmr, List.length_take]; show min nt 2 ≤ 2; omega
    have dR : Dp K (upd H6 r (.lst (ps ++ ys))) (.ref r) (.list ((as ++ more).map accD)) := by
      rw [List.map_append, ← hmore]
      exact .lst (SqL.of upd_same) (dpa_ex (Ex.new nr) (dpa_app ps2 ys2))
    have rnin : r ∉ [a, c0] := d6.nin nr
    have d7 := d6.mono (Ex.new (o := .lst (ps ++ ys)) nr)
    have bb7 : Bts [a, c0] H1 (upd H6 r (.lst (ps ++ ys))) := ((((bb.trans b3).trans b4).trans b5).trans b6).ex (Ex.new nr)
    have hlen7 : (as ++ more).length ≤ 7 := by rw [List.length_append]; omega
    generalize upd H6 r (.lst (ps ++ ys)) = H7 at *
    generalize as ++ more = as' at hp dR hlen7
    clear hmore hsl hmost ps1 ps2 ys1 ys2 o5 dy
    show tSeq _ _ _ [some (.ref q), some (.ref a), some (.int (i : Nat)), some (.int (b : Nat)), some (.ref r), x5, x6, none, none, none, none, none, none, none, none] H7
    -- as a list or a tuple
    refine q_ifN K d7 (evn_op (R := fun d => ∃ j : Nat, j < 2 ∧ d = .int (j : Nat)) (S := fun d => d = .int 0) (G := fun d => ∃ b, d = .bool b) (fun d ⟨j, _, e⟩ => by rw [e]; rfl) (evn_any (n := 2) rfl (by decide) (by decide) fun H1 _ => evd_int) (evn_of fun H1 _ => evd_int) fun H1 d e ⟨j, _, e1⟩ e2 => ⟨.bool (decide ((j : Int) = 0)), ⟨_, rfl⟩, by rw [e1, e2]; exact rd_eqI⟩) fun bt H8 b8 d8 => ?_
    have dR8 := dpl_bts b8 d7.lsts (noAcc as') dR rnin
    have hsent : EvD K (if bt = true then tVar 4 else tCB (fun xs H Q => ∃ p ys, xs = [V.ref p] ∧ ((SqL K H p ys ∧ ∀ l, H l = none → Q (V.ref l) (upd H l (HO.tup ys))) ∨ SqT K H p ys ∧ Q (V.ref p) H)) (tCons (tVar 4) tNil)) [some (.ref q), some (.ref a), some (.int (i : Nat)), some (.int (b : Nat)), some (.ref r), x5, x6, none, none, none, none, none, none, none, none] H8 (Seq bt (as'.map accD)) := by
      cases bt with
      | true => rw [if_pos rfl]; exact evd_var (i := 4) rfl dR8 (Ex.refl _)
      | false => rw [if_neg Bool.false_ne_true]; exact evd_cb (evda_cons (evd_var (i := 4) rfl dR8 (Ex.refl _)) evda_nil) rc_tupL
    refine hsent H8 (Ex.refl _) _ fun v5 H9 e9 d5v => ?_
    show tSeq _ _ _ [some (.ref q), some (.ref a), some (.int (i : Nat)), some (.int (b : Nat)), some (.ref r), some v5, x6, none, none, none, none, none, none, none, none] H9
    have dR9 := dp_ex e9 dR8
    refine q_set K (d := .str (handD b (finB b as')).shown) (evd_reprD (evd_call (ds := [.int (b : Nat), .list (as'.map accD)]) (evda_cons (evd_varI rfl) (evda_cons (evd_var (i := 4) rfl dR9 (Ex.refl _)) evda_nil)) ⟨b, as', hp, rfl, rfl⟩) ⟨_, rfl⟩ (hand_shown hp)) fun v6 H10 e10 d6v => ?_
    cases dp_str d6v
    show tIfS _ _ _ _ [some (.ref q), some (.ref a), some (.int (i : Nat)), some (.int (b : Nat)), some (.ref r), some v5, some (.str (handD b (finB b as')).shown), none, none, none, none, none, none, none, none] H10
    have dR10 := dp_ex e10 dR9
    have d5v10 := dp_ex e10 d5v
    have eqS : ∀ x : Str, (!decide (x = x)) = false := fun x => by rw [decide_eq_true rfl]; rfl
    refine s_when (b := false) (et_is (et_or (a := false) (b := false) (et_is (et_strNe (K := K) (x := (handD b (finB b as')).shown) (y := (handD b (finB b as')).shown) (evd_reprD (evd_handK (R := R_handed) (d := Seq bt (as'.map accD)) (e := .int (b : Nat)) (evda_cons (evd_var (i := 5) rfl d5v10 (Ex.refl _)) (evda_cons (evd_varI rfl) evda_nil)) ⟨b, bt, as', hp, rfl, rfl⟩) ⟨_, rfl⟩ (hand_shown hp)) (evd_var (i := 6) rfl (.str _) (Ex.refl _))) (eqS _))
      fun _ => et_is (et_strNe (K := K) (x := (handD b (finB b as'.reverse)).shown) (y := (handD b (finB b as')).shown) (evd_reprD (evd_call (ds := [.int (b : Nat), .list (as'.map accD).reverse]) (evda_cons (evd_varI rfl) (evda_cons (evd_revL (evd_var (i := 4) rfl dR10 (Ex.refl _))) evda_nil)) ⟨b, true, as'.reverse, hp.rev, by rw [List.map_reverse]; rfl, rfl⟩) ⟨_, rfl⟩ (hand_shown hp.rev)) (evd_var (i := 6) rfl (.str _) (Ex.refl _))) (by rw [finB_rev]; exact eqS _)) rfl) (fun z => nomatch z) fun _ H11 e11 => ?_
    exact ⟨some (.int (i : Nat)), some (.int (b : Nat)), some (.ref r), some v5, _, rfl, (bb7.trans b8).ex ((e9.trans e10).trans e11), ((d8.mono e9).mono e10).mono e11, fun _ => ⟨b, as', r, rfl, rfl, rfl, hp, hlen7, rnin, dp_ex e11 dR10⟩⟩
  · rintro σ' H' ⟨x2, x3, x4, x5, x6, rfl, bb, dl, hlast⟩
    obtain ⟨b, as, p, rfl, rfl, rfl, hp, hal, hpn, hdp⟩ := hlast (by decide)
    have eqS : ∀ x : Str, (!decide (x = x)) = false := fun x => by rw [decide_eq_true rfl]; rfl
    refine q_asgT (t_call1 (t_cons (t_v rfl (t_cons (t_v rfl (t_cons (t_v rfl (t_nil ⟨a, c0, p, b, as, rfl, hp.b1, hp.b3, hal, hp.good, hdp, hpn, dl, fun v7 H3 hbad b3 d3 => ?_⟩))))))))
    show tSeq _ _ _ [some (.ref q), some (.ref a), x2, some (.int (b : Nat)), some (.ref p), x5, some (.str (handD b (finB b as)).shown), some v7, none, none, none, none, none, none, none] H3
    have hdp3 := dpl_bts b3 dl.lsts (noAcc as) hdp hpn
    have hP3 : H3 Pt = some (.tbl #[]) := (bb.trans b3) _ _ pnin hP1
    -- what is no accord is refused
    refine q_noOr (t_test (t_op ?_))
    refine ⟨fun x hx => by rw [List.mem_singleton.mp hx]; exact TabS.nil hP3, fun H4 eN _ => ?_⟩
    refine t_call1 (t_cons (t_v rfl (t_cons (t_v rfl (t_nil ⟨b, v7, rfl, hbad.exn eN, fun dd H5 e5 hdd => ⟨rfl, dd, rfl, hdd, fun t nt => ?_⟩⟩)))))
    have d5 := (d3.dex (DEx.ofN eN)).mono (e5.trans (Ex.new (o := .tup [.str "question", .int 1]) nt))
    have hdp5 := dp_ex (e5.trans (Ex.new (o := .tup [.str "question", .int 1]) nt)) (dp_exn eN hdp3)
    have ht5 : upd H5 t (.tup [.str "question", .int 1]) t = some (.tup [.str "question", .int 1]) := upd_same
    generalize upd H5 t (.tup [.str "question", .int 1]) = H6 at *
    have dq : Dp K H6 (.ref t) (.tuple [.str "question", .int 1]) := .tup (SqT.of ht5) (.cons (.str _) (.cons (.int 1) .nil))
    have hsh : SeqAt.shaped (.tuple [.str "question", .int 1]) = true := by decide +kernel
    have hqe : (!PyData.eqv (.tuple [.str "question", .int 1]) (.tuple [.str "question", .int 1])) = false := by decide +kernel
    have hT : EvD K (tTup (tCons (tC (V.str "question")) (tCons (tC (V.int 1)) tNil))) [some (.ref q), some (.ref a), x2, some (.int (b : Nat)), some (.ref p), x5, some (.str (handD b (finB b as)).shown), some v7, none, none, none, none, none, none, none] H6 (.tuple [.str "question", .int 1]) := evd_tup (evda_cons evd_str (evda_cons evd_int evda_nil)) (by show 2 ≤ 100000; decide)
    refine hT H6 (Ex.refl _) _ fun y H7 e7 dy => ⟨_, _, dp_ex e7 dq, dy, hsh, hsh, false, by rw [hqe], ?_⟩
    have hdp7 := dp_ex e7 hdp5
    have d7 := d5.mono e7
    refine noOr_end (et_is (et_strNe (K := K) (x := (handD b (finB b as)).shown) (y := (handD b (finB b as)).shown) (evd_reprD (evd_call (ds := [.int (b : Nat), .list (as.map accD)]) (evda_cons (evd_varI rfl) (evda_cons (evd_var (i := 4) rfl hdp7 (Ex.refl _)) evda_nil)) ⟨b, true, as, hp, rfl, rfl⟩) ⟨_, rfl⟩ (hand_shown hp)) (evd_var (i := 6) rfl (.str _) (Ex.refl _))) (eqS _)) fun H8 e8 => ?_
    have d8 := d7.mono e8
    -- accords that hold
    refine q_asgT (t_call1 (t_cons (t_v rfl (t_nil ⟨a, c0, rfl, d8, fun n Fn as' p' d' t01 t02 t12 t' H9 hn hF hl' htr b9 hT' o9 hd9 w01 w02 w12 => ?_⟩))))
    refine ⟨t', [.ref p', .ref d'], rfl, SqT.of hT', rfl, _, _, rfl, _, _, rfl, rfl, ?_⟩
    show tSeq _ _ _ [some (.ref q), some (.ref a), x2, some (.int (b : Nat)), some (.ref p), x5, some (.str (handD b (finB b as)).shown), some v7, some (.ref p'), some (.ref d'), none, none, none, none, none] H9
    have dp9 := o9.dp
    have hp' := pre_true hl' htr
    refine q_set K (d := handD 3 (finB 3 as')) (evd_call (ds := [.int 3, .list (as'.map accD)]) (evda_cons evd_int (evda_cons (evd_var (i := 8) rfl dp9 (Ex.refl _)) evda_nil)) ⟨3, as', hp', rfl, rfl⟩) fun v10 H10 e10 dv10 => ?_
    show tSeq _ _ _ [some (.ref q), some (.ref a), x2, some (.int (b : Nat)), some (.ref p), x5, some (.str (handD b (finB b as)).shown), some v7, some (.ref p'), some (.ref d'), some v10, none, none, none, none] H10
    have dp10 := dp_ex e10 dp9
    refine q_no (et_is (et_strNe (K := K) (x := (handD 3 (finB 3 as')).shown) (y := (handD 3 (finB 3 as')).shown) (evd_reprD (evd_call (ds := [.int 3, .list (as'.map accD)]) (evda_cons evd_int (evda_cons (evd_var (i := 8) rfl dp10 (Ex.refl _)) evda_nil)) ⟨3, true, as', hp', rfl, rfl⟩) ⟨_, rfl⟩ (hand_shown hp')) (evd_reprD (evd_var (i := 10) rfl dv10 (Ex.refl _)) ⟨_, rfl⟩ (hand_shown hp'))) (eqS _)) fun H11 e11 => ?_
    have dv11 := dp_ex e11 dv10
    have hd11 := (e10.trans e11) _ _ hd9
    have w01 := w01.mono (e10.trans e11)
    have w02 := w02.mono (e10.trans e11)
    have w12 := w12.mono (e10.trans e11)
    refine q_forV K (b := false) (i := 10) (ds := (pairsOf 3).map fun k : Nat × Nat => .tuple [.int (k.1 : Nat), .int (k.2 : Nat), rowD (atR (finB 3 as') k)]) rfl dv11 ⟨fun i σ' H' => ∃ (x11 x12 x13 : Option V), σ' = [some (.ref q), some (.ref a), x2, some (.int (b : Nat)), some (.ref p), x5, some (.str (handD b (finB b as)).shown), some v7, some (.ref p'), some (.ref d'), some v10, x11, x12, x13, none] ∧ Ex H11 H', ⟨none, none, none, rfl, Ex.refl _⟩, fun i σ' H' ⟨_, _, _, _, e⟩ => dp_ex e dv11, ?_, fun σ' H' _ => k H'⟩
    rintro i x y σ' H' hi dy ⟨x11, x12, x13, rfl, e12⟩
    obtain ⟨kk, hk, rfl⟩ : ∃ kk, (pairsOf 3)[i]? = some kk ∧ (PyData.tuple [.int (kk.1 : Nat), .int (kk.2 : Nat), rowD (atR (finB 3 as') kk)]) = x := by
      rw [List.getElem?_map] at hi
      cases hz : (pairsOf 3)[i]? with
      | none => rw [hz] at hi; cases hi
      | some z => rw [hz] at hi; exact ⟨z, rfl, Option.some.inj hi⟩
    have hkm := List.mem_of_getElem? hk
    have hrow := hand_ok hp' kk hkm
    refine g_three dy fun y1 y2 y3 dy1 dy2 dy3 => ?_
    cases dp_int dy1
    cases dp_int dy2
    obtain ⟨t, hv, wk, hk1, hk2⟩ : ∃ t, valV (kvW t01 t02 t12) (kyN kk) = some (.ref t) ∧ WkS [] H' t (Fn kk.1) (Fn kk.2) ∧ kk.1 < 3 ∧ kk.2 < 3 := by
      rcases pairs_in (by decide) (by decide) kk hkm with rfl | rfl | rfl
      · exact ⟨t01, rfl, w01.mono e12, by decide, by decide⟩
      · exact ⟨t02, rfl, w02.mono e12, by decide, by decide⟩
      · exact ⟨t12, rfl, w12.mono e12, by decide, by decide⟩
    obtain ⟨bs, back, ok, wdp⟩ := wk.dp (K := K)
    have hd12 := e12 _ _ hd11
    have hget : ∀ {x14 : Option V} {H2 : Hp}, Ex H' H2 → EvD K (tDGet (tVar 9) (tTup (tCons (tVar 11) (tCons (tVar 12) tNil)))) [some (.ref q), some (.ref a), x2, some (.int (b : Nat)), some (.ref p), x5, some (.str (handD b (finB b as)).shown), some v7, some (.ref p'), some (.ref d'), some v10, some (.int (kk.1 : Nat)), some (.int (kk.2 : Nat)), some y3, x14] H2 (.tuple [.list (bs.map .bool), .int (back : Nat)]) := fun {x14 H2} e G g Q k => by
      refine ⟨_, rfl, t_tup (t_cons (t_v rfl (t_cons (t_v rfl (t_nil ⟨by show 2 ≤ sizeLine; decide, fun b nb => ?_⟩)))))⟩
      have eb := Ex.new (o := .tup [.int (kk.1 : Nat), .int (kk.2 : Nat)]) nb
      exact ⟨d', .ref t, rfl, by rw [← hv]; exact DGet.t (k := kyN kk) (eb _ _ (g _ _ (e _ _ hd12))) upd_same, k _ _ eb (dp_ex ((e.trans g).trans eb) wdp)⟩
    have hvr := hrow.v
    have hempty : ((inL (atR (finB 3 as') kk).1 (atR (finB 3 as') kk).2 40).filter fun c => !decide (Agree (Fn kk.1) (Fn kk.2) c)) = [] := by
      rw [List.filter_eq_nil_iff]
      intro c hc
      have := rows_agree hF htr hkm ((inL_mem hvr).mp hc).1
      rw [decide_eq_true this]
      simp
    have hil : (inL (atR (finB 3 as') kk).1 (atR (finB 3 as') kk).2 40).length ≤ 95000 := by
      have h1 := inL_few hrow
      unfold inL
      have := List.length_filter_le (fun x => decide (x < 40)) (runsL (atR (finB 3 as') kk).1 0 ++ tailL (far (atR (finB 3 as') kk).1) (atR (finB 3 as') kk).2 40)
      rw [List.length_append] at this
      omega
    refine s_when (b := false) (et_test (K := K) (evd_op (d := .list []) (e := .list []) (evd_is (evd_lcI (b := true) intN (inL (atR (finB 3 as') kk).1 (atR (finB 3 as') kk).2 40) (fun c => !decide (Agree (Fn kk.1) (Fn kk.2) c)) intN
      (evd_call (ds := [rowD (atR (finB 3 as') kk), .int 40]) (evda_cons (evd_var (i := 13) rfl dy3 (Ex.refl _)) (evda_cons evd_int evda_nil)) ⟨_, _, 40, inL_few hrow, rfl, rfl⟩) (by omega) (fun _ _ _ => rfl) fun c hc => ?_) (by rw [hempty]; rfl)) (evd_lst evda_nil (by decide)) (rd_neD rfl rfl))) (fun z => nomatch z) fun _ H13 e13 => ⟨some (.int (kk.1 : Nat)), some (.int (kk.2 : Nat)), some y3, rfl, e12.trans e13⟩
    refine lct_name (fun v => rfl) fun v H1 e dv => ?_
    have dv : Dp K H1 v (.int (c : Nat)) := dv
    cases dp_int dv
    exact ⟨et_not (et_B (K := K) (evd_call (ds := [.tuple [.list (bs.map .bool), .int (back : Nat)], .int (c : Nat)]) (evda_cons (hget e) (evda_cons (evd_varI rfl) evda_nil)) ⟨n, Fn kk.1, Fn kk.2, bs, back, c, hF _ hk1, hF _ hk2, ok, rfl, rfl⟩)), fun _ => evd_varI rfl⟩
end Bw
end
section
set_option Elab.async false
set_option linter.all false
set_option maxRecDepth 100000
set_option maxHeartbeats 4000000
/-! the end of the row: `law` called with its script, its guards known, one table of code objects. -/
namespace Bw
open PySem PySem.Spec PyProof.Rows L2 LamX
section
variable {P : Program} {w : World} {K : PySem.W.Frag} {mg mb : Str → Option Value} {k : Nat} {fa al co tb : Addr} {fd : FuncData} {x : Str} {sp : Sp} {z : Shared} {us : List Value} {ks : List Int}
/-- what the row asks of the call's outcome -/
def Outc (z : Shared) (r : Result) (z' : Shared) : Prop := r = .ok (.ret (.bool true)) ∧ OldK z.heap z'.heap ∧ z'.os = z.os ∧ AllBare z'.gens
theorem end_core (kin : K.In z.heap) (gl : z.heap.Ns mainGlobals mg) (bl : z.heap.Ns builtinsNs mb) (boot : ∀ y : Str, y ≠ "__name__" → mb y = bootBuiltins y) (nl : z.heap.NoLimit) (ge : z.gens = #[])
    (ht : z.heap.get? tb = some { cls := .none, data := .fields #[] }) (kt : K.lookup tb = none) (kc : PySem.W.codeHdIn K co tb = true)
    (bm : ∃ (m : Addr) (om : Obj), mg "__builtins__" = some (.ref m) ∧ m ≠ builtinsNs ∧ z.heap.get? m = some om ∧ om.cls = .type "module" ∧ om.dict = some builtinsNs ∧ om.data = .plain)
    (ha : z.heap.get? al = some { cls := .type "list", data := .seq us.toArray }) (hr : Room k callerA) (hF : ∀ base : Heap, K.In base → base.Ns mainGlobals mg → TabB base mg co tb → FnG P w K mg base k fa fd [x] sp)
    (hb : ∀ (s : Shared) (u : Value), BindsTo s fd ⟨[u], []⟩ [(x, u)]) {H : Hp} (h1 : H tb = some (.tbl #[])) (h2 : ∀ b, H b ≠ none → b = al ∨ b = tb) (h3 : ∀ u, H al = some u → ∃ o xs, u = .frz o (.lst xs)) (h4 : HOk P w H z.heap) (h5 : H al ≠ none → K.lookup al = none)
    (hs : sp [.ref al] H (fun v _ => v = .bl true) fun _ _ _ => False) : codeAny (model P w) callerA (.call (.ref fa) ⟨[.ref al], []⟩) (Outc z) z := by
  have free : ∀ {b : Addr} {o : Obj}, z.heap.get? b = some o → o.data ≠ .seq us.toArray → o.data ≠ .fields #[] → H b = none := fun {b o} e n1 n2 => Classical.byContradiction fun nn => by
    rcases h2 b nn with r | r
    · rw [r, ha] at e; cases e; exact n1 rfl
    · rw [r, ht] at e; cases e; exact n2 rfl
  have hid : ∀ {b : Addr} {o : Obj}, z.heap.get? b = some o → o.data ≠ .seq us.toArray → o.data ≠ .fields #[] → (hidT z.heap H).get? b = some o := fun e n1 n2 => hidT_get e (free e n1 n2)
  have dic : ∀ {b : Addr} {m : Str → Option Value}, z.heap.Ns b m → (hidT z.heap H).Ns b m := fun {b m} ⟨o, es, ep, e, d, r⟩ => ⟨o, es, ep, hid e (by rw [d]; exact fun q => nomatch q) (by rw [d]; exact fun q => nomatch q), d, r⟩
  have kin' : K.In (hidT z.heap H) := fun b o e => hidT_get (kin b o e) (Classical.byContradiction fun nn => by
    rcases h2 b nn with r | r
    · rw [r] at e nn; rw [h5 nn] at e; cases e
    · rw [r, kt] at e; cases e)
  have TB : TabB (hidT z.heap H) mg co tb := by
    refine ⟨PySem.W.codeHd_of_K kin' kc, ?_, fun q => ?_⟩
    · obtain ⟨m, om, g1, g2, g3, g4, g5, g6⟩ := bm
      refine ⟨m, om, g1, g2, fun q => ?_, fun q => ?_, hid g3 (by rw [g6]; exact fun q => nomatch q) (by rw [g6]; exact fun q => nomatch q), g4, g5, g6⟩
      · obtain ⟨o, es, ep, e, d, _⟩ := gl
        rw [q, e] at g3
        cases g3
        rw [d] at g6
        cases g6
      · rw [q, ht] at g3
        cases g3
        cases g6
    · obtain ⟨o, es, ep, e, d, _⟩ := gl
      rw [q, ht] at e
      cases e
      cases d
  have hM : L2.Mod K mg (hidT z.heap H) := ⟨kin', dic gl, ⟨mb, dic bl, boot⟩, let ⟨mc, q1, q2⟩ := nl; ⟨mc, dic q1, q2⟩⟩
  have en : Env0 P w K mg (hidT z.heap H) callerA [] z H := ⟨rfl, hM, fun b o e => of_hidT e, Nat.le_of_eq (hidT_size _ _), trivial, fun b hb => absurd (show b ∈ ([] : List Addr) from hb) (by simp), h4, .of_eq ge⟩
  refine codeAny_mono ((hF _ kin' (dic gl) TB).run callerA [] z H ⟨[.ref al], []⟩ [.ref al] [.ref al] _ _ rfl hr en (hb z (.ref al)) (.cons rfl .nil) hs) fun r z' q => ?_
  cases r with
  | error e => exact False.elim q
  | ok fl =>
    cases fl with
    | next => exact False.elim q
    | brk => exact False.elim q
    | cont => exact False.elim q
    | ret u =>
      obtain ⟨v, H', os, bare, un, hk', rv, ev⟩ := q
      have ev : v = .bl true := ev
      subst ev
      obtain rfl : u = Value.bool true := rv
      have stay : ∀ b o, b ≠ tb → z.heap.get? b = some o → z'.heap.get? b = some o := fun b o nb e => by
        cases hb : H b with
        | none => exact un.keep b o e hb (fun m => absurd (show b ∈ ([] : List Addr) from m) (by simp)) (by simp)
        | some u =>
          rcases h2 b (by rw [hb]; simp) with r | r
          · rw [r] at hb e ⊢
            obtain ⟨ob, xs, rfl⟩ := h3 u hb
            obtain ⟨e1, _⟩ := h4 al _ hb
            obtain ⟨e2, _⟩ := hk' al _ (un.frzs al ob _ hb)
            rw [e] at e1
            cases e1
            exact e2
          · exact absurd r nb
      obtain ⟨more, hm⟩ := un.tbls tb #[] h1
      have tb' : z'.heap.get? tb = some { cls := .none, data := .fields (#[] ++ more) } := hk' tb _ hm
      refine ⟨rfl, ⟨fun b o e => ?_, fun b o e => ?_⟩, os, bare⟩
      · by_cases nb : b = tb
        · rw [nb] at e ⊢
          rw [ht] at e
          cases e
          exact .inr (.inl ⟨((PySem.W.codeHd_of_K kin kc).tab ht).isCodeTable, rfl, #[], more, rfl, tb'⟩)
        · exact .inl (stay b o nb e)
      · by_cases nb : b = tb
        · rw [nb]; exact ⟨_, tb'⟩
        · exact ⟨o, stay b o nb e⟩
theorem end_call (kin : K.In z.heap) (gl : z.heap.Ns mainGlobals mg) (bl : z.heap.Ns builtinsNs mb) (boot : ∀ y : Str, y ≠ "__name__" → mb y = bootBuiltins y) (nl : z.heap.NoLimit) (ge : z.gens = #[])
    (ht : z.heap.get? tb = some { cls := .none, data := .fields #[] }) (kt : K.lookup tb = none) (kc : PySem.W.codeHdIn K co tb = true)
    (bm : ∃ (m : Addr) (om : Obj), mg "__builtins__" = some (.ref m) ∧ m ≠ builtinsNs ∧ z.heap.get? m = some om ∧ om.cls = .type "module" ∧ om.dict = some builtinsNs ∧ om.data = .plain)
    (ha : z.heap.get? al = some { cls := .type "list", data := .seq us.toArray }) (hi : IntsAre us ks) (hl : ks.length ≤ sizeLine) (hr : Room k callerA) (hF : ∀ base : Heap, K.In base → base.Ns mainGlobals mg → TabB base mg co tb → FnG P w K mg base k fa fd [x] sp)
    (hb : ∀ (s : Shared) (u : Value), BindsTo s fd ⟨[u], []⟩ [(x, u)]) (hs : ∀ H : Hp, H tb = some (.tbl #[]) → SqL K H al (ks.map V.int) → sp [.ref al] H (fun v _ => v = .bl true) fun _ _ _ => False) :
    codeAny (model P w) callerA (.call (.ref fa) ⟨[.ref al], []⟩) (Outc z) z := by
  have rv := vals_ints hi
  have nat : al ≠ tb := fun q => by
    rw [q, ht] at ha
    have := congrArg Obj.data (Option.some.inj ha)
    cases this
  cases hk : K.lookup al with
  | some o =>
    have e := kin al o hk
    rw [ha] at e
    cases e
    have eq0 : ∀ b, b ≠ tb → (fun b => if b = tb then some (HO.tbl #[]) else none : Hp) b = none := fun b nb => if_neg nb
    refine end_core (H := fun b => if b = tb then some (.tbl #[]) else none) kin gl bl boot nl ge ht kt kc bm ha hr hF hb (if_pos rfl) (fun b nn => .inr (Classical.byContradiction fun q => nn (eq0 b q))) (fun u q => nomatch (eq0 al nat).symm.trans q) (fun b u q => ?_) (fun nn => absurd (eq0 al nat) nn)
      (hs _ (if_pos rfl) (.inr ⟨_, us.toArray, _, hk, rfl, rfl, rfl, by rw [List.size_toArray, hi.length]; exact hl, by simpa using rv⟩))
    by_cases nb : b = tb
    · have q := (if_pos nb).symm.trans q
      cases q
      rw [nb]
      exact ht
    · exact nomatch (eq0 b nb).symm.trans q
  | none =>
    have at1 : (fun b => if b = al then some (HO.frz { cls := .type "list", data := .seq us.toArray } (.lst (ks.map V.int))) else if b = tb then some (.tbl #[]) else none : Hp) al = some (.frz { cls := .type "list", data := .seq us.toArray } (.lst (ks.map V.int))) := if_pos rfl
    have at2 : (fun b => if b = al then some (HO.frz { cls := .type "list", data := .seq us.toArray } (.lst (ks.map V.int))) else if b = tb then some (.tbl #[]) else none : Hp) tb = some (.tbl #[]) := (if_neg (Ne.symm nat)).trans (if_pos rfl)
    refine end_core (H := fun b => if b = al then some (HO.frz { cls := .type "list", data := .seq us.toArray } (.lst (ks.map V.int))) else if b = tb then some (.tbl #[]) else none) kin gl bl boot nl ge ht kt kc bm ha hr hF hb at2 (fun b nn => ?_) (fun u q => ⟨_, _, (Option.some.inj (at1.symm.trans q)).symm⟩) (fun b u q => ?_) (fun _ => hk)
      (hs _ at2 (.inl (.inr ⟨_, at1⟩)))
    · by_cases n1 : b = al
      · exact .inl n1
      · by_cases n2 : b = tb
        · exact .inr n2
        · exact absurd ((if_neg n1).trans (if_neg n2)) nn
    · by_cases n1 : b = al
      · have q := (if_pos n1).symm.trans q
        cases q
        rw [n1]
        exact ⟨ha, by rw [List.length_map]; exact hl, us, _, rv, ha⟩
      · have q := (if_neg n1).symm.trans q
        by_cases n2 : b = tb
        · have q := (if_pos n2).symm.trans q
          cases q
          rw [n2]
          exact ht
        · have q := (if_neg n2).symm.trans q
          cases q
end
/-- the row's end, by such a promise of `law` -/
theorem end_walk {l : PySem.W.OpenLaw} {n k : Nat} {q : Program} {loose : List Str} {XP : (Str → Option Value) → Heap → Prop} {YP : World → Heap → Prop} {d : DefRec} {K : Params → PySem.W.Frag} {x : Str} (hn : l.most = some n) (hn2 : n ≤ sizeLine) (hdf : d.params.defaults = []) (hr : Room k callerA) (hY : ∀ (w : World) (h : Heap), YP w h → (K w.params).In h)
    (F : ∀ (w : World) (mg : Str → Option Value) (fa : Addr) (h : Heap), YP w h → (K w.params).In h → h.Ns mainGlobals mg → mg d.name = some (.ref fa) → ∃ (fd : FuncData) (co tb : Addr) (sp : Sp), h.get? tb = some { cls := .none, data := .fields #[] } ∧ (K w.params).lookup tb = none ∧ PySem.W.codeHdIn (K w.params) co tb = true ∧
      (∀ (s : Shared) (u : Value), BindsTo s fd ⟨[u], []⟩ [(x, u)]) ∧ (∀ (H : Hp) (a : Addr) (ns : List Int), ns.length ≤ n → H tb = some (.tbl #[]) → SqL (K w.params) H a (ns.map V.int) → sp [.ref a] H (fun v _ => v = .bl true) fun _ _ _ => False) ∧
      ∀ base : Heap, (K w.params).In base → base.Ns mainGlobals mg → TabB base mg co tb → FnG l.prog w (K w.params) mg base k fa fd [x] sp) : PySem.W.WalkO q loose XP YP l.row.toRowW d [] (fun f vs => PySem.call f vs) := by
  refine Att.attach_callB hn hdf fun w s₀ s₁ mg mb fa o pm cd doc a vs ns G Y ho hd hcd hmg hobj hints hlen hbits hg => ?_
  have KX := hY w _ Y
  obtain ⟨fd, co, tb, sp, htab, nT, kc, hb, hsp, hF⟩ := F w mg fa _ Y KX G.T.g hmg
  exact end_call KX G.T.g G.T.b G.T.builtins G.T.nolimit hg htab nT kc G.T.bmain hobj hints (Nat.le_trans hlen hn2) hr hF hb fun H h1 h2 => hsp H a ns hlen h1 h2
end Bw
end
section
set_option Elab.async false
set_option linter.all false
set_option maxRecDepth 100000
set_option maxHeartbeats 4000000
/-! all promises joined; the facts of the program's top. -/
namespace Bw
open PySem PySem.Spec PyProof.Rows L2 Bfb LamX
/-- a def stands in K -/
def DefK (K : PySem.W.Frag) (x : Str) (st : Stmt) : Prop := ∃ (f : Addr) (oc : Value) (od : Option Addr) (kV doc pm : Value) (an : Option Addr) (cdv ct : Value) (osl : Array (Option Value)), PySem.W.nsIn K mainGlobals x = some (some (.ref f)) ∧
  K.lookup f = some ⟨oc, od, .func (PySem.W.fnOf x x (defArgs st) (defBody st) (defScope st) .none kV doc pm an cdv ct), osl⟩ ∧ PySem.W.codeIn K cdv x = true ∧ PySem.W.keepIn K (.ref f) = true
theorem DefK.mk {K : PySem.W.Frag} {x : Str} {st : Stmt} {f : Addr} {oc : Value} {od : Option Addr} {kV doc pm : Value} {an : Option Addr} {cdv ct : Value} {osl : Array (Option Value)} (a : PySem.W.nsIn K mainGlobals x = some (some (.ref f)))
    (l : K.lookup f = some ⟨oc, od, .func (PySem.W.fnOf x x (defArgs st) (defBody st) (defScope st) .none kV doc pm an cdv ct), osl⟩) (c : PySem.W.codeIn K cdv x = true) (k : PySem.W.keepIn K (.ref f) = true) : DefK K x st := ⟨f, oc, od, kV, doc, pm, an, cdv, ct, osl, a, l, c, k⟩
theorem DefK.fd {K : PySem.W.Frag} {x : Str} {st : Stmt} {h : Heap} {mg : Str → Option Value} (X : K.In h) (G : h.Ns mainGlobals mg) (D : DefK K x st) : Fd K mg x st := by
  obtain ⟨f, oc, od, kV, doc, pm, an, cdv, ct, osl, a, l, c, k⟩ := D
  exact ⟨f, _, fun_mk l c k, PySem.W.mg_of X G a⟩
theorem iq_mk {P : Program} {K : PySem.W.Frag} {mg : Str → Option Value} {C fI cda cc : Addr} {nm q : Str} {N : Addr} {bs bm : List Value} {sn : List Str} {sub : List Value} {ab : Bool} {col : Option Bool} {dd : Option Addr} {k0 k1 k2 k3 k5 : Option Value}
    {c0 : Value} {d0 : Option Addr} {s0 : Array (Option Value)} {c1 : Value} {d1 : Option Addr} {vs : Array Value} {s1 : Array (Option Value)} {file : Str} {tf : Tok} {oc : Value} {od : Option Addr} {doc pm : Value} {an : Option Addr} {ct : Value} {osl : Array (Option Value)}
    (gC : mg "InvalidQuestion" = some (.ref C)) (cls : K.lookup C = some (excClassObj nm q C N bs bm true sn sub ab col dd k0 k1 k2 k3 k5 "ValueError.__new__")) (bmr : PySem.HandSPX.refsVE bm = true)
    (sa : PySem.W.findIn K (.ref C) "__setattr__" = some (some (.builtin "object.__setattr__"))) (ga : PySem.W.findIn K (.ref C) "__getattribute__" = some (some (.builtin "BaseException.__getattribute__"))) (gg : PySem.W.findIn K (.ref C) "__getattr__" = some none) (noN : PySem.W.findIn K (.ref C) "at" = some none)
    (iC : PySem.W.findIn K (.ref C) "__init__" = some (some (.ref fI))) (tC : PySem.W.typeIn K (.ref fI) = some (.type "function")) (kC : PySem.W.keepIn K (.ref C) = true) (exC : PySem.W.subIn K (.ref C) (.type "BaseException") = some true) (veC : PySem.W.subIn K (.ref C) (.type "ValueError") = some true)
    (tyC : PySem.W.typeIn K (.ref C) = some (.type "type")) (hdC : PySem.W.hasDictIn K C = true) (mroC : PySem.W.mroIn K C (.ref C) = some true) (sup : mg "super" = none) (thi : PySem.W.nsIn K cStatics "thirdparty.any" = some none) (supC : PySem.W.ks_superIn K C C "__init__" = some (some (.builtin "ValueError.__init__")))
    (fn : K.lookup fI = some ⟨oc, od, .func (PySem.W.ksFn "__init__" "InvalidQuestion.__init__" iqA iqB iqS .none .none doc pm an (.ref cda) ct cc), osl⟩) (cd : PySem.W.codeIn K (.ref cda) "InvalidQuestion.__init__" = true) (cell : K.lookup cc = some ⟨c0, d0, .cell (some (.ref C)), s0⟩)
    (code : K.lookup cda = some ⟨c1, d1, .fields vs, s1⟩) (hvs : vs[2]? = some (.str file tf)) (hfile : ((P.main.file : Str) == file) = true) (top : (P.main.scope.names.lookup ("super" : Str)).isSome = false) : IqTxt P K mg C fI cda cc :=
  ⟨gC, ⟨_, _, _, _, _, _, _, _, _, _, _, _, _, _, _, cls, bmr⟩, sa, ga, gg, noN, iC, tC, kC, exC, veC, tyC, hdC, mroC, sup, thi, supC, ⟨_, _, _, cell⟩, ⟨_, _, _, _, _, _, code, hvs, hfile⟩, top, ⟨_, _, _, _, _, _, _, fn, cd⟩⟩
theorem top_law {w : World} {K : PySem.W.Frag} {h : Heap} {mg : Str → Option Value} {fa C fI cda cc CR f co tb : Addr} (X : K.In h) (G : h.Ns mainGlobals mg) (hfa : mg "law" = some (.ref fa))
    {tM tA : Tok} {oc kV doc pm ct : Value} {od an : Option Addr} {osl : Array (Option Value)}
    (a_law : PySem.W.nsIn K mainGlobals "law" = some (some (.ref f))) (l_law : K.lookup f = some ⟨oc, od, .func (PySem.W.fnOf "law" "law" (defArgs s_law) (defBody s_law) (defScope s_law) .none kV doc pm an (.ref co) ct), osl⟩) (c_law : PySem.W.codeIn K (.ref co) "law" = true)
    (t_law : h.get? tb = some { cls := .none, data := .fields #[] }) (n_law : K.lookup tb = none) (h_law : PySem.W.codeHdIn K co tb = true)
    (K_is_integer : DefK K "is_integer" s_is_integer) (K_is_number : DefK K "is_number" s_is_number) (K_is_index : DefK K "is_index" s_is_index) (K_is_sequence : DefK K "is_sequence" s_is_sequence) (K_common_divisor : DefK K "common_divisor" s_common_divisor) (K_common_multiple : DefK K "common_multiple" s_common_multiple) (K_is_run : DefK K "is_run" s_is_run) (K_is_within : DefK K "is_within" s_is_within) (K_is_falling : DefK K "is_falling" s_is_falling) (K_checked_falling : DefK K "checked_falling" s_checked_falling) (K_checked_counts : DefK K "checked_counts" s_checked_counts) (K_closing : DefK K "closing" s_closing) (K_tellers : DefK K "tellers" s_tellers) (K_check_rows : DefK K "check_rows" s_check_rows) (K_together : DefK K "together" s_together) (K_behind : DefK K "behind" s_behind) (K_pieces_of : DefK K "pieces_of" s_pieces_of) (K_meeting : DefK K "meeting" s_meeting) (K_is_up_to : DefK K "is_up_to" s_is_up_to) (K_first_common : DefK K "first_common" s_first_common) (K_times_at_once : DefK K "times_at_once" s_times_at_once) (K_both : DefK K "both" s_both) (K_is_accord : DefK K "is_accord" s_is_accord) (K_check_accords : DefK K "check_accords" s_check_accords) (K_told_counts : DefK K "told_counts" s_told_counts) (K_handed_on : DefK K "handed_on" s_handed_on) (K_law_divisor : DefK K "_law_divisor" s_law_divisor) (K_law_runs : DefK K "_law_runs" s_law_runs) (K_law_has : DefK K "_law_has" s_law_has) (K_law_starts : DefK K "_law_starts" s_law_starts) (K_law_closing : DefK K "_law_closing" s_law_closing) (K_law_in : DefK K "_law_in" s_law_in) (K_law_both : DefK K "_law_both" s_law_both) (K_law_handed : DefK K "_law_handed" s_law_handed) (K_law_any : DefK K "_law_any" s_law_any) (K_law_of : DefK K "_law_of" s_law_of) (K_law_draw : DefK K "_law_draw" s_law_draw) (K_law_accords : DefK K "_law_accords" s_law_accords) (K_law_bad_accords : DefK K "_law_bad_accords" s_law_bad_accords) (K_law_then : DefK K "_law_then" s_law_then) (K_law_walk : DefK K "_law_walk" s_law_walk) (K_law_fits : DefK K "_law_fits" s_law_fits) (K_law_pair_walks : DefK K "_law_pair_walks" s_law_pair_walks) (K_law_true : DefK K "_law_true" s_law_true) (K_law_at : DefK K "_law_at" s_law_at)
    (z_isinstance : PySem.W.nsIn K mainGlobals "isinstance" = some none) (z_len : PySem.W.nsIn K mainGlobals "len" = some none) (z_all : PySem.W.nsIn K mainGlobals "all" = some none) (z_sum : PySem.W.nsIn K mainGlobals "sum" = some none) (z_min : PySem.W.nsIn K mainGlobals "min" = some none) (z_max : PySem.W.nsIn K mainGlobals "max" = some none) (z_sorted : PySem.W.nsIn K mainGlobals "sorted" = some none) (z_set : PySem.W.nsIn K mainGlobals "set" = some none) (z_range : PySem.W.nsIn K mainGlobals "range" = some none) (z_enumerate : PySem.W.nsIn K mainGlobals "enumerate" = some none) (z_tuple : PySem.W.nsIn K mainGlobals "tuple" = some none) (z_list : PySem.W.nsIn K mainGlobals "list" = some none) (z_int : PySem.W.nsIn K mainGlobals "int" = some none) (z_bool : PySem.W.nsIn K mainGlobals "bool" = some none) (z_abs : PySem.W.nsIn K mainGlobals "abs" = some none) (z_repr : PySem.W.nsIn K mainGlobals "repr" = some none) (z_MOST : PySem.W.nsIn K mainGlobals "MOST" = some (some (.int 60 tM))) (z_ACCORDS : PySem.W.nsIn K mainGlobals "ACCORDS" = some (some (.int 20 tA))) (z_super : PySem.W.nsIn K mainGlobals "super" = some none)
    (gC : PySem.W.nsIn K mainGlobals "InvalidQuestion" = some (some (.ref C))) (gR : PySem.W.nsIn K mainGlobals "InvalidRow" = some (some (.ref CR)))
    (Tq : mg "InvalidQuestion" = some (.ref C) → mg "super" = none → IqTxt PySem.Challenge.pw_bodyforbody_k45_whole_agreements_handed K mg C fI cda cc)
    (m1 : PySem.W.exmOne K (.ref C) (.ref CR) = some false) (m2 : PySem.W.exmOne K (.ref C) (.ref C) = some true) :
    ∃ (fd : FuncData) (co tb : Addr) (sp : Sp), h.get? tb = some { cls := .none, data := .fields #[] } ∧ K.lookup tb = none ∧ PySem.W.codeHdIn K co tb = true ∧ (∀ (s : Shared) (u : Value), BindsTo s fd ⟨[u], []⟩ [("_law_script", u)]) ∧
      (∀ (H : Hp) (a : Addr) (ns : List Int), ns.length ≤ 63 → H tb = some (.tbl #[]) → SqL K H a (ns.map V.int) → sp [.ref a] H (fun v _ => v = .bl true) fun _ _ _ => False) ∧
      ∀ base : Heap, K.In base → base.Ns mainGlobals mg → TabB base mg co tb → FnG PySem.Challenge.pw_bodyforbody_k45_whole_agreements_handed w K mg base 11 fa fd ["_law_script"] sp := by
  have e := hfa.symm.trans (PySem.W.mg_of X G a_law)
  cases e
  have Tq := Tq (PySem.W.mg_of X G gC) (PySem.W.mg_none_of X G z_super)
  have B : Nm mg := ⟨PySem.W.mg_none_of X G z_isinstance, PySem.W.mg_none_of X G z_len, PySem.W.mg_none_of X G z_all, PySem.W.mg_none_of X G z_sum, PySem.W.mg_none_of X G z_min, PySem.W.mg_none_of X G z_max, PySem.W.mg_none_of X G z_sorted, PySem.W.mg_none_of X G z_set, PySem.W.mg_none_of X G z_range, PySem.W.mg_none_of X G z_enumerate, PySem.W.mg_none_of X G z_tuple, PySem.W.mg_none_of X G z_list, PySem.W.mg_none_of X G z_int, PySem.W.mg_none_of X G z_bool, PySem.W.mg_none_of X G z_abs, PySem.W.mg_none_of X G z_repr, ⟨tM, PySem.W.mg_of X G z_MOST⟩, ⟨tA, PySem.W.mg_of X G z_ACCORDS⟩⟩
  have F_is_integer := K_is_integer.fd X G
  have F_is_number := K_is_number.fd X G
  have F_is_index := K_is_index.fd X G
  have F_is_sequence := K_is_sequence.fd X G
  have F_common_divisor := K_common_divisor.fd X G
  have F_common_multiple := K_common_multiple.fd X G
  have F_is_run := K_is_run.fd X G
  have F_is_within := K_is_within.fd X G
  have F_is_falling := K_is_falling.fd X G
  have F_checked_falling := K_checked_falling.fd X G
  have F_checked_counts := K_checked_counts.fd X G
  have F_closing := K_closing.fd X G
  have F_tellers := K_tellers.fd X G
  have F_check_rows := K_check_rows.fd X G
  have F_together := K_together.fd X G
  have F_behind := K_behind.fd X G
  have F_pieces_of := K_pieces_of.fd X G
  have F_meeting := K_meeting.fd X G
  have F_is_up_to := K_is_up_to.fd X G
  have F_first_common := K_first_common.fd X G
  have F_times_at_once := K_times_at_once.fd X G
  have F_both := K_both.fd X G
  have F_is_accord := K_is_accord.fd X G
  have F_check_accords := K_check_accords.fd X G
  have F_told_counts := K_told_counts.fd X G
  have F_handed_on := K_handed_on.fd X G
  have F_law_divisor := K_law_divisor.fd X G
  have F_law_runs := K_law_runs.fd X G
  have F_law_has := K_law_has.fd X G
  have F_law_starts := K_law_starts.fd X G
  have F_law_closing := K_law_closing.fd X G
  have F_law_in := K_law_in.fd X G
  have F_law_both := K_law_both.fd X G
  have F_law_handed := K_law_handed.fd X G
  have F_law_any := K_law_any.fd X G
  have F_law_of := K_law_of.fd X G
  have F_law_draw := K_law_draw.fd X G
  have F_law_accords := K_law_accords.fd X G
  have F_law_bad_accords := K_law_bad_accords.fd X G
  have F_law_then := K_law_then.fd X G
  have F_law_walk := K_law_walk.fd X G
  have F_law_fits := K_law_fits.fd X G
  have F_law_pair_walks := K_law_pair_walks.fd X G
  have F_law_true := K_law_true.fd X G
  have F_law_at := K_law_at.fd X G
  refine ⟨PySem.W.fnOf "law" "law" (defArgs s_law) (defBody s_law) (defScope s_law) .none kV doc pm an (.ref co) ct, co, tb, spLaw K tb, t_law, n_law, h_law, fun s u => .of_eq rfl, fun H a ns hl hH hS => ⟨a, ns, rfl, hS, hl, hH, fun _ => rfl⟩, fun base _ _ TB => ?_⟩
  have D_is_integer := d_is_integer (P := PySem.Challenge.pw_bodyforbody_k45_whole_agreements_handed) (w := w) (base := base) F_is_integer B 
  have D_is_number := d_is_number (P := PySem.Challenge.pw_bodyforbody_k45_whole_agreements_handed) (w := w) (base := base) F_is_number B D_is_integer
  have D_is_index := d_is_index (P := PySem.Challenge.pw_bodyforbody_k45_whole_agreements_handed) (w := w) (base := base) F_is_index B D_is_number
  have D_is_sequence := d_is_sequence (P := PySem.Challenge.pw_bodyforbody_k45_whole_agreements_handed) (w := w) (base := base) F_is_sequence B 
  have D_common_divisor := d_common_divisor (P := PySem.Challenge.pw_bodyforbody_k45_whole_agreements_handed) (w := w) (base := base) F_common_divisor B 
  have D_common_multiple := d_common_multiple (P := PySem.Challenge.pw_bodyforbody_k45_whole_agreements_handed) (w := w) (base := base) F_common_multiple B D_common_divisor
  have D_is_run := d_is_run (P := PySem.Challenge.pw_bodyforbody_k45_whole_agreements_handed) (w := w) (base := base) F_is_run B D_is_number
  have D_is_within := d_is_within (P := PySem.Challenge.pw_bodyforbody_k45_whole_agreements_handed) (w := w) (base := base) F_is_within B 
  have D_is_falling := d_is_falling (P := PySem.Challenge.pw_bodyforbody_k45_whole_agreements_handed) (w := w) (base := base) F_is_falling B D_is_number D_is_within D_is_run
  have D_checked_falling := d_checked_falling (P := PySem.Challenge.pw_bodyforbody_k45_whole_agreements_handed) (w := w) (base := base) F_checked_falling B D_is_falling
  have D_checked_counts := d_checked_counts (P := PySem.Challenge.pw_bodyforbody_k45_whole_agreements_handed) (w := w) (base := base) F_checked_counts B D_is_sequence D_is_number
  have D_closing := d_closing (P := PySem.Challenge.pw_bodyforbody_k45_whole_agreements_handed) (w := w) (base := base) F_closing B D_checked_counts
  have D_tellers := d_tellers (P := PySem.Challenge.pw_bodyforbody_k45_whole_agreements_handed) (w := w) (base := base) F_tellers B D_checked_falling
  have D_check_rows := d_check_rows (P := PySem.Challenge.pw_bodyforbody_k45_whole_agreements_handed) (w := w) (base := base) F_check_rows B D_is_falling
  have D_together := d_together (P := PySem.Challenge.pw_bodyforbody_k45_whole_agreements_handed) (w := w) (base := base) F_together B D_check_rows D_closing D_tellers
  have D_behind := d_behind (P := PySem.Challenge.pw_bodyforbody_k45_whole_agreements_handed) (w := w) (base := base) F_behind B 
  have D_pieces_of := d_pieces_of (P := PySem.Challenge.pw_bodyforbody_k45_whole_agreements_handed) (w := w) (base := base) F_pieces_of B 
  have D_meeting := d_meeting (P := PySem.Challenge.pw_bodyforbody_k45_whole_agreements_handed) (w := w) (base := base) F_meeting B D_common_divisor D_common_multiple
  have D_is_up_to := d_is_up_to (P := PySem.Challenge.pw_bodyforbody_k45_whole_agreements_handed) (w := w) (base := base) F_is_up_to B 
  have D_first_common := d_first_common (P := PySem.Challenge.pw_bodyforbody_k45_whole_agreements_handed) (w := w) (base := base) F_first_common B D_pieces_of D_meeting D_is_up_to
  have D_times_at_once := d_times_at_once (P := PySem.Challenge.pw_bodyforbody_k45_whole_agreements_handed) (w := w) (base := base) F_times_at_once B D_pieces_of
  have D_both := d_both (P := PySem.Challenge.pw_bodyforbody_k45_whole_agreements_handed) (w := w) (base := base) F_both B D_check_rows D_common_multiple D_first_common D_times_at_once D_behind
  have D_is_accord := d_is_accord (P := PySem.Challenge.pw_bodyforbody_k45_whole_agreements_handed) (w := w) (base := base) F_is_accord B D_is_index
  have D_check_accords := d_check_accords (P := PySem.Challenge.pw_bodyforbody_k45_whole_agreements_handed) (w := w) (base := base) F_check_accords B D_is_sequence D_is_accord
  have D_told_counts := d_told_counts (P := PySem.Challenge.pw_bodyforbody_k45_whole_agreements_handed) (w := w) (base := base) F_told_counts B 
  have DF_handed_on := d_handed_on (P := PySem.Challenge.pw_bodyforbody_k45_whole_agreements_handed) (w := w) (base := base) F_handed_on B D_check_accords D_closing D_told_counts D_both D_together
  have D_law_divisor := d_law_divisor (P := PySem.Challenge.pw_bodyforbody_k45_whole_agreements_handed) (w := w) (base := base) F_law_divisor B 
  have D_law_runs := d_law_runs (P := PySem.Challenge.pw_bodyforbody_k45_whole_agreements_handed) (w := w) (base := base) F_law_runs B 
  have D_law_has := d_law_has (P := PySem.Challenge.pw_bodyforbody_k45_whole_agreements_handed) (w := w) (base := base) F_law_has B 
  have D_law_starts := d_law_starts (P := PySem.Challenge.pw_bodyforbody_k45_whole_agreements_handed) (w := w) (base := base) F_law_starts B 
  have D_law_closing := d_law_closing (P := PySem.Challenge.pw_bodyforbody_k45_whole_agreements_handed) (w := w) (base := base) F_law_closing B 
  have D_law_in := d_law_in (P := PySem.Challenge.pw_bodyforbody_k45_whole_agreements_handed) (w := w) (base := base) F_law_in B 
  have D_law_both := d_law_both (P := PySem.Challenge.pw_bodyforbody_k45_whole_agreements_handed) (w := w) (base := base) F_law_both B D_law_runs D_law_divisor D_law_in D_law_has
  have D_law_handed := d_law_handed (P := PySem.Challenge.pw_bodyforbody_k45_whole_agreements_handed) (w := w) (base := base) F_law_handed B D_law_closing D_law_both D_law_starts
  have D_law_any := d_law_any (P := PySem.Challenge.pw_bodyforbody_k45_whole_agreements_handed) (w := w) (base := base) F_law_any B 
  have D_law_of := d_law_of (P := PySem.Challenge.pw_bodyforbody_k45_whole_agreements_handed) (w := w) (base := base) F_law_of B D_law_any
  have D_law_draw := d_law_draw (P := PySem.Challenge.pw_bodyforbody_k45_whole_agreements_handed) (w := w) (base := base) F_law_draw B 
  have D_law_accords := d_law_accords (P := PySem.Challenge.pw_bodyforbody_k45_whole_agreements_handed) (w := w) (base := base) F_law_accords B D_law_any D_law_of
  have D_law_bad_accords := d_law_bad_accords (P := PySem.Challenge.pw_bodyforbody_k45_whole_agreements_handed) (w := w) (base := base) F_law_bad_accords B D_law_any D_law_of
  have D_law_then := d_law_then (P := PySem.Challenge.pw_bodyforbody_k45_whole_agreements_handed) (w := w) (base := base) F_law_then B 
  have D_law_walk := d_law_walk (P := PySem.Challenge.pw_bodyforbody_k45_whole_agreements_handed) (w := w) (base := base) F_law_walk B D_law_then
  have D_law_fits := d_law_fits (P := PySem.Challenge.pw_bodyforbody_k45_whole_agreements_handed) (w := w) (base := base) F_law_fits B 
  have D_law_pair_walks := d_law_pair_walks (P := PySem.Challenge.pw_bodyforbody_k45_whole_agreements_handed) (w := w) (base := base) F_law_pair_walks B D_law_walk
  have X_check_accords := x_check_accords (P := PySem.Challenge.pw_bodyforbody_k45_whole_agreements_handed) (w := w) (base := base) F_check_accords B D_is_sequence D_is_accord Tq
  have X_handed_on := x_handed_on (P := PySem.Challenge.pw_bodyforbody_k45_whole_agreements_handed) (w := w) (base := base) F_handed_on B X_check_accords D_closing D_told_counts D_both D_together
  have D_law_true := d_law_true (P := PySem.Challenge.pw_bodyforbody_k45_whole_agreements_handed) (w := w) (base := base) F_law_true B D_law_any D_law_pair_walks D_law_fits D_law_of
  exact g_law B l_law c_law TB F_law_at Tq (PySem.W.mg_of X G gR) m1 m2 X_handed_on DF_handed_on D_law_draw D_law_any D_law_of D_law_accords D_law_bad_accords D_law_handed D_law_true D_law_in D_law_fits
end Bw
end
set_option pp.maxSteps 20
open PySem PySem.W PyProof.Rows
set_option linter.all false
set_option maxRecDepth 100000 in
set_option maxHeartbeats 0 in
theorem PySem.Challenge.cw_bodyforbody_k45_whole_agreements_handed_holds : PySem.Challenge.rw_bodyforbody_k45_whole_agreements_handed.Holds := by
  w_on; o_law; k_head; (case hw => w_witness2)
  k_fill
  refine Bw.end_walk (l := PySem.Challenge.rw_bodyforbody_k45_whole_agreements_handed) (n := 63) (k := 11) (x := "_law_script") rfl (by decide) rfl ⟨rfl, by decide, by decide⟩ (fun w h Y => PySem.W.km_in_of Y) ?F
  case F =>
    intro w mg fa h Y KX G hmg
    have hmg : mg "law" = some (.ref fa) := hmg
    refine' Bw.top_law (tb := 354) KX G hmg ?a_law ?l_law ?c_law ?t_law ?n_law ?h_law ?K_is_integer ?K_is_number ?K_is_index ?K_is_sequence ?K_common_divisor ?K_common_multiple ?K_is_run ?K_is_within ?K_is_falling ?K_checked_falling ?K_checked_counts ?K_closing ?K_tellers ?K_check_rows ?K_together ?K_behind ?K_pieces_of ?K_meeting ?K_is_up_to ?K_first_common ?K_times_at_once ?K_both ?K_is_accord ?K_check_accords ?K_told_counts ?K_handed_on ?K_law_divisor ?K_law_runs ?K_law_has ?K_law_starts ?K_law_closing ?K_law_in ?K_law_both ?K_law_handed ?K_law_any ?K_law_of ?K_law_draw ?K_law_accords ?K_law_bad_accords ?K_law_then ?K_law_walk ?K_law_fits ?K_law_pair_walks ?K_law_true ?K_law_at ?z_isinstance ?z_len ?z_all ?z_sum ?z_min ?z_max ?z_sorted ?z_set ?z_range ?z_enumerate ?z_tuple ?z_list ?z_int ?z_bool ?z_abs ?z_repr ?z_MOST ?z_ACCORDS ?z_super ?gC ?gR ?Tq ?m1 ?m2
    (case a_law => k_is)
    (case l_law => k_is)
    (case c_law => k_is)
    (case t_law => exact PySem.W.km_tabs_of Y 354 (by simp))
    (case n_law => first | k_is | kernel_rfl | rfl)
    (case h_law => first | kernel_rfl | rfl)
    (case K_is_integer => refine' Bw.DefK.mk ?a_is_integer ?l_is_integer ?c_is_integer ?k_is_integer; (case a_is_integer => k_is); (case l_is_integer => k_is); (case c_is_integer => k_is); (case k_is_integer => k_is))
    (case K_is_number => refine' Bw.DefK.mk ?a_is_number ?l_is_number ?c_is_number ?k_is_number; (case a_is_number => k_is); (case l_is_number => k_is); (case c_is_number => k_is); (case k_is_number => k_is))
    (case K_is_index => refine' Bw.DefK.mk ?a_is_index ?l_is_index ?c_is_index ?k_is_index; (case a_is_index => k_is); (case l_is_index => k_is); (case c_is_index => k_is); (case k_is_index => k_is))
    (case K_is_sequence => refine' Bw.DefK.mk ?a_is_sequence ?l_is_sequence ?c_is_sequence ?k_is_sequence; (case a_is_sequence => k_is); (case l_is_sequence => k_is); (case c_is_sequence => k_is); (case k_is_sequence => k_is))
    (case K_common_divisor => refine' Bw.DefK.mk ?a_common_divisor ?l_common_divisor ?c_common_divisor ?k_common_divisor; (case a_common_divisor => k_is); (case l_common_divisor => k_is); (case c_common_divisor => k_is); (case k_common_divisor => k_is))
    (case K_common_multiple => refine' Bw.DefK.mk ?a_common_multiple ?l_common_multiple ?c_common_multiple ?k_common_multiple; (case a_common_multiple => k_is); (case l_common_multiple => k_is); (case c_common_multiple => k_is); (case k_common_multiple => k_is))
    (case K_is_run => refine' Bw.DefK.mk ?a_is_run ?l_is_run ?c_is_run ?k_is_run; (case a_is_run => k_is); (case l_is_run => k_is); (case c_is_run => k_is); (case k_is_run => k_is))
    (case K_is_within => refine' Bw.DefK.mk ?a_is_within ?l_is_within ?c_is_within ?k_is_within; (case a_is_within => k_is); (case l_is_within => k_is); (case c_is_within => k_is); (case k_is_within => k_is))
    (case K_is_falling => refine' Bw.DefK.mk ?a_is_falling ?l_is_falling ?c_is_falling ?k_is_falling; (case a_is_falling => k_is); (case l_is_falling => k_is); (case c_is_falling => k_is); (case k_is_falling => k_is))
    (case K_checked_falling => refine' Bw.DefK.mk ?a_checked_falling ?l_checked_falling ?c_checked_falling ?k_checked_falling; (case a_checked_falling => k_is); (case l_checked_falling => k_is); (case c_checked_falling => k_is); (case k_checked_falling => k_is))
    (case K_checked_counts => refine' Bw.DefK.mk ?a_checked_counts ?l_checked_counts ?c_checked_counts ?k_checked_counts; (case a_checked_counts => k_is); (case l_checked_counts => k_is); (case c_checked_counts => k_is); (case k_checked_counts => k_is))
    (case K_closing => refine' Bw.DefK.mk ?a_closing ?l_closing ?c_closing ?k_closing; (case a_closing => k_is); (case l_closing => k_is); (case c_closing => k_is); (case k_closing => k_is))
    (case K_tellers => refine' Bw.DefK.mk ?a_tellers ?l_tellers ?c_tellers ?k_tellers; (case a_tellers => k_is); (case l_tellers => k_is); (case c_tellers => k_is); (case k_tellers => k_is))
    (case K_check_rows => refine' Bw.DefK.mk ?a_check_rows ?l_check_rows ?c_check_rows ?k_check_rows; (case a_check_rows => k_is); (case l_check_rows => k_is); (case c_check_rows => k_is); (case k_check_rows => k_is))
    (case K_together => refine' Bw.DefK.mk ?a_together ?l_together ?c_together ?k_together; (case a_together => k_is); (case l_together => k_is); (case c_together => k_is); (case k_together => k_is))
    (case K_behind => refine' Bw.DefK.mk ?a_behind ?l_behind ?c_behind ?k_behind; (case a_behind => k_is); (case l_behind => k_is); (case c_behind => k_is); (case k_behind => k_is))
    (case K_pieces_of => refine' Bw.DefK.mk ?a_pieces_of ?l_pieces_of ?c_pieces_of ?k_pieces_of; (case a_pieces_of => k_is); (case l_pieces_of => k_is); (case c_pieces_of => k_is); (case k_pieces_of => k_is))
    (case K_meeting => refine' Bw.DefK.mk ?a_meeting ?l_meeting ?c_meeting ?k_meeting; (case a_meeting => k_is); (case l_meeting => k_is); (case c_meeting => k_is); (case k_meeting => k_is))
    (case K_is_up_to => refine' Bw.DefK.mk ?a_is_up_to ?l_is_up_to ?c_is_up_to ?k_is_up_to; (case a_is_up_to => k_is); (case l_is_up_to => k_is); (case c_is_up_to => k_is); (case k_is_up_to => k_is))
    (case K_first_common => refine' Bw.DefK.mk ?a_first_common ?l_first_common ?c_first_common ?k_first_common; (case a_first_common => k_is); (case l_first_common => k_is); (case c_first_common => k_is); (case k_first_common => k_is))
    (case K_times_at_once => refine' Bw.DefK.mk ?a_times_at_once ?l_times_at_once ?c_times_at_once ?k_times_at_once; (case a_times_at_once => k_is); (case l_times_at_once => k_is); (case c_times_at_once => k_is); (case k_times_at_once => k_is))
    (case K_both => refine' Bw.DefK.mk ?a_both ?l_both ?c_both ?k_both; (case a_both => k_is); (case l_both => k_is); (case c_both => k_is); (case k_both => k_is))
    (case K_is_accord => refine' Bw.DefK.mk ?a_is_accord ?l_is_accord ?c_is_accord ?k_is_accord; (case a_is_accord => k_is); (case l_is_accord => k_is); (case c_is_accord => k_is); (case k_is_accord => k_is))
    (case K_check_accords => refine' Bw.DefK.mk ?a_check_accords ?l_check_accords ?c_check_accords ?k_check_accords; (case a_check_accords => k_is); (case l_check_accords => k_is); (case c_check_accords => k_is); (case k_check_accords => k_is))
    (case K_told_counts => refine' Bw.DefK.mk ?a_told_counts ?l_told_counts ?c_told_counts ?k_told_counts; (case a_told_counts => k_is); (case l_told_counts => k_is); (case c_told_counts => k_is); (case k_told_counts => k_is))
    (case K_handed_on => refine' Bw.DefK.mk ?a_handed_on ?l_handed_on ?c_handed_on ?k_handed_on; (case a_handed_on => k_is); (case l_handed_on => k_is); (case c_handed_on => k_is); (case k_handed_on => k_is))
    (case K_law_divisor => refine' Bw.DefK.mk ?a_law_divisor ?l_law_divisor ?c_law_divisor ?k_law_divisor; (case a_law_divisor => k_is); (case l_law_divisor => k_is); (case c_law_divisor => k_is); (case k_law_divisor => k_is))
    (case K_law_runs => refine' Bw.DefK.mk ?a_law_runs ?l_law_runs ?c_law_runs ?k_law_runs; (case a_law_runs => k_is); (case l_law_runs => k_is); (case c_law_runs => k_is); (case k_law_runs => k_is))
    (case K_law_has => refine' Bw.DefK.mk ?a_law_has ?l_law_has ?c_law_has ?k_law_has; (case a_law_has => k_is); (case l_law_has => k_is); (case c_law_has => k_is); (case k_law_has => k_is))
    (case K_law_starts => refine' Bw.DefK.mk ?a_law_starts ?l_law_starts ?c_law_starts ?k_law_starts; (case a_law_starts => k_is); (case l_law_starts => k_is); (case c_law_starts => k_is); (case k_law_starts => k_is))
    (case K_law_closing => refine' Bw.DefK.mk ?a_law_closing ?l_law_closing ?c_law_closing ?k_law_closing; (case a_law_closing => k_is); (case l_law_closing => k_is); (case c_law_closing => k_is); (case k_law_closing => k_is))
    (case K_law_in => refine' Bw.DefK.mk ?a_law_in ?l_law_in ?c_law_in ?k_law_in; (case a_law_in => k_is); (case l_law_in => k_is); (case c_law_in => k_is); (case k_law_in => k_is))
    (case K_law_both => refine' Bw.DefK.mk ?a_law_both ?l_law_both ?c_law_both ?k_law_both; (case a_law_both => k_is); (case l_law_both => k_is); (case c_law_both => k_is); (case k_law_both => k_is))
    (case K_law_handed => refine' Bw.DefK.mk ?a_law_handed ?l_law_handed ?c_law_handed ?k_law_handed; (case a_law_handed => k_is); (case l_law_handed => k_is); (case c_law_handed => k_is); (case k_law_handed => k_is))
    (case K_law_any => refine' Bw.DefK.mk ?a_law_any ?l_law_any ?c_law_any ?k_law_any; (case a_law_any => k_is); (case l_law_any => k_is); (case c_law_any => k_is); (case k_law_any => k_is))
    (case K_law_of => refine' Bw.DefK.mk ?a_law_of ?l_law_of ?c_law_of ?k_law_of; (case a_law_of => k_is); (case l_law_of => k_is); (case c_law_of => k_is); (case k_law_of => k_is))
    (case K_law_draw => refine' Bw.DefK.mk ?a_law_draw ?l_law_draw ?c_law_draw ?k_law_draw; (case a_law_draw => k_is); (case l_law_draw => k_is); (case c_law_draw => k_is); (case k_law_draw => k_is))
    (case K_law_accords => refine' Bw.DefK.mk ?a_law_accords ?l_law_accords ?c_law_accords ?k_law_accords; (case a_law_accords => k_is); (case l_law_accords => k_is); (case c_law_accords => k_is); (case k_law_accords => k_is))
    (case K_law_bad_accords => refine' Bw.DefK.mk ?a_law_bad_accords ?l_law_bad_accords ?c_law_bad_accords ?k_law_bad_accords; (case a_law_bad_accords => k_is); (case l_law_bad_accords => k_is); (case c_law_bad_accords => k_is); (case k_law_bad_accords => k_is))
    (case K_law_then => refine' Bw.DefK.mk ?a_law_then ?l_law_then ?c_law_then ?k_law_then; (case a_law_then => k_is); (case l_law_then => k_is); (case c_law_then => k_is); (case k_law_then => k_is))
    (case K_law_walk => refine' Bw.DefK.mk ?a_law_walk ?l_law_walk ?c_law_walk ?k_law_walk; (case a_law_walk => k_is); (case l_law_walk => k_is); (case c_law_walk => k_is); (case k_law_walk => k_is))
    (case K_law_fits => refine' Bw.DefK.mk ?a_law_fits ?l_law_fits ?c_law_fits ?k_law_fits; (case a_law_fits => k_is); (case l_law_fits => k_is); (case c_law_fits => k_is); (case k_law_fits => k_is))
    (case K_law_pair_walks => refine' Bw.DefK.mk ?a_law_pair_walks ?l_law_pair_walks ?c_law_pair_walks ?k_law_pair_walks; (case a_law_pair_walks => k_is); (case l_law_pair_walks => k_is); (case c_law_pair_walks => k_is); (case k_law_pair_walks => k_is))
    (case K_law_true => refine' Bw.DefK.mk ?a_law_true ?l_law_true ?c_law_true ?k_law_true; (case a_law_true => k_is); (case l_law_true => k_is); (case c_law_true => k_is); (case k_law_true => k_is))
    (case K_law_at => refine' Bw.DefK.mk ?a_law_at ?l_law_at ?c_law_at ?k_law_at; (case a_law_at => k_is); (case l_law_at => k_is); (case c_law_at => k_is); (case k_law_at => k_is))
    (case z_isinstance => k_is)
    (case z_len => k_is)
    (case z_all => k_is)
    (case z_sum => k_is)
    (case z_min => k_is)
    (case z_max => k_is)
    (case z_sorted => k_is)
    (case z_set => k_is)
    (case z_range => k_is)
    (case z_enumerate => k_is)
    (case z_tuple => k_is)
    (case z_list => k_is)
    (case z_int => k_is)
    (case z_bool => k_is)
    (case z_abs => k_is)
    (case z_repr => k_is)
    (case z_MOST => k_is)
    (case z_ACCORDS => k_is)
    (case z_super => k_is)
    (case gC => k_is)
    (case gR => k_is)
    case Tq =>
      intro g0 g1
      refine' Bw.iq_mk g0 ?q_cls ?q_bm ?q_sa ?q_ga ?q_gg ?q_noN ?q_iC ?q_tC ?q_kC ?q_exC ?q_veC ?q_tyC ?q_hdC ?q_mroC g1 ?q_thi ?q_supC ?q_fn ?q_cd ?q_cell ?q_code ?q_vs ?q_file ?q_top
      (case q_cls => k_is)
      (case q_bm => first | kernel_rfl | rfl | decide +kernel)
      (case q_sa => k_is)
      (case q_ga => k_is)
      (case q_gg => k_is)
      (case q_noN => k_is)
      (case q_iC => k_is)
      (case q_tC => k_is)
      (case q_kC => k_is)
      (case q_exC => k_is)
      (case q_veC => k_is)
      (case q_tyC => k_is)
      (case q_hdC => k_is)
      (case q_mroC => k_is)
      (case q_thi => k_is)
      (case q_supC => first | kernel_rfl | rfl | decide +kernel)
      (case q_fn => k_is)
      (case q_cd => k_is)
      (case q_cell => k_is)
      (case q_code => k_is)
      (case q_vs => (first | rfl | k_is))
      (case q_file => (first | rfl | decide +kernel))
      (case q_top => (first | rfl | decide +kernel))
    (case m1 => first | kernel_rfl | rfl | decide +kernel)
    (case m2 => first | kernel_rfl | rfl | decide +kernel)
